-- A text of this session, written by a program of its own (wip/tools).
import Derived.Test.YtkldnopfgcenhaaPAllx0
import Derived.Test.YtkldnopfgcenhaaPAllx1
import Derived.Test.YtkldnopfgcenhaaPAllx15
import Derived.Test.YtkldnopfgcenhaaPAllx28
import Derived.Test.YtkldnopfgcenhaaPAllx29
import Derived.Test.YtkldnopfgcenhaaPAllx34
import Derived.Test.YtkldnopfgcenhaaPAllx38
namespace Go.Proofs.Ytkldnopfgcenhaa.PAll
open Go.RowKit Go.Proofs.YtkldnopfgcenhaaW.PrintWords Go.Proofs.YtkldnopfgcenhaaW.PrintLast Go.Proofs.YtkldnopfgcenhaaW.PrintMore
attribute [local go_sem] max2_int min2_int max_two min_two max_three min_three max_four min_four   -- for this text's walks alone
set_option linter.unusedVariables false
set_option linter.unusedSimpArgs false

attribute [local go_sem high] eqA25
/-! ### timesynclaw21_SampleWider: function 9 -/
mutual
def timesynclaw21_SampleWider.j0 : Nat → Bool → Int → Int → Int → Int → Int → Int → Int → Int → Int → Int → Int → Int → Option (Bool)
  | 0, _, _, _, _, _, _, _, _, _, _, _, _, _ => none
  | k + 1, x98, x370000, x370001, x370002, x370003, x382000, x382001, x382002, x382003, x388000, x388001, x388002, x388003 => if x98 = true then (some false) else ((sample_Bounds.f x370000 x370001 x370002 x370003).bind fun bt394 => ((sample_Bounds.f x382000 x382001 x382002 x382003).bind fun bt396 => (if bt396.1 > bt394.1 then (timesynclaw21_SampleWider.j1 k true x382000 x382001 x382002 x382003 x388000 x388001 x388002 x388003) else (if bt396.2 < bt394.2 then (timesynclaw21_SampleWider.j1 k true x382000 x382001 x382002 x382003 x388000 x388001 x388002 x388003) else (if x382000 = x370000 then (if x382001 = x370001 then (timesynclaw21_SampleWider.j1 k (x382003 != x388003) x382000 x382001 x382002 x382003 x388000 x388001 x388002 x388003) else (timesynclaw21_SampleWider.j1 k true x382000 x382001 x382002 x382003 x388000 x388001 x388002 x388003)) else (timesynclaw21_SampleWider.j1 k true x382000 x382001 x382002 x382003 x388000 x388001 x388002 x388003))))))
def timesynclaw21_SampleWider.j1 : Nat → Bool → Int → Int → Int → Int → Int → Int → Int → Int → Option (Bool)
  | 0, _, _, _, _, _, _, _, _, _ => none
  | k + 1, x135, x382000, x382001, x382002, x382003, x388000, x388001, x388002, x388003 => if x135 = true then (some false) else (if x382002 = x388002 then ((timesynclaw21_awake.f k).bind fun t400 => (timesynclaw21_SampleWider.j2 k t400)) else (if x382002 = (wrap64 (x388002 + 1)) then ((timesynclaw21_awake.f k).bind fun t401 => (timesynclaw21_SampleWider.j2 k t401)) else (timesynclaw21_SampleWider.j2 k false)))
def timesynclaw21_SampleWider.j2 : Nat → Bool → Option (Bool)
  | 0, _ => none
  | k + 1, x8 => some x8
end
def timesynclaw21_SampleWider.f (k : Nat) (a0_0 : Int) (a0_1 : Int) (a0_2 : Int) (a0_3 : Int) (a0_4 : Int) (a0_5 : Int) (a1 : Int) (a2 : Int) (a3 : Int) : Option (Bool) := (timesynclaw21_quad.f a0_0 a0_1 a0_2 a0_3 a0_4 a0_5 0).bind fun bt360 => ((sample_Of.f k bt360.1 bt360.2.1 bt360.2.2.1 bt360.2.2.2 1 (Int.tmod (wrap64 (a3)) 500001)).bind fun bt364 => ((sample_Grow.f k bt364.1 bt364.2.1 bt364.2.2.1 bt364.2.2.2.1 (wrap64 (bt364.2.2.2.1 + (wrap64 (a1)))) (Int.tmod (wrap64 (a3)) 500001)).bind fun bt370 => ((sample_Grow.f k bt370.1 bt370.2.1 bt370.2.2.1 bt370.2.2.2.1 (wrap64 (bt370.2.2.2.1 + (wrap64 (a2)))) (Int.tmod (wrap64 (a3)) 500001)).bind fun bt376 => ((sample_Grow.f k bt364.1 bt364.2.1 bt364.2.2.1 bt364.2.2.2.1 (wrap64 ((wrap64 (bt364.2.2.2.1 + (wrap64 (a1)))) + (wrap64 (a2)))) (Int.tmod (wrap64 (a3)) 500001)).bind fun bt382 => ((sample_Grow.f k bt364.1 bt364.2.1 bt364.2.2.1 bt364.2.2.2.1 bt364.2.2.2.1 (Int.tmod (wrap64 (a3)) 500001)).bind fun bt388 => (if bt364.2.2.2.2 = 0 then (if bt370.2.2.2.2 = 0 then (if bt376.2.2.2.2 = 0 then (if bt382.2.2.2.2 = 0 then (if bt388.2.2.2.2 = 0 then (timesynclaw21_SampleWider.j0 k (!(bt388.1 == bt364.1) || (!(bt388.2.1 == bt364.2.1) || (!(bt388.2.2.1 == bt364.2.2.1) || (!(bt388.2.2.2.1 == bt364.2.2.2.1))))) bt364.1 bt364.2.1 bt364.2.2.1 bt364.2.2.2.1 bt376.1 bt376.2.1 bt376.2.2.1 bt376.2.2.2.1 bt382.1 bt382.2.1 bt382.2.2.1 bt382.2.2.2.1) else (timesynclaw21_SampleWider.j0 k true bt364.1 bt364.2.1 bt364.2.2.1 bt364.2.2.2.1 bt376.1 bt376.2.1 bt376.2.2.1 bt376.2.2.2.1 bt382.1 bt382.2.1 bt382.2.2.1 bt382.2.2.2.1)) else (timesynclaw21_SampleWider.j0 k true bt364.1 bt364.2.1 bt364.2.2.1 bt364.2.2.2.1 bt376.1 bt376.2.1 bt376.2.2.1 bt376.2.2.2.1 bt382.1 bt382.2.1 bt382.2.2.1 bt382.2.2.2.1)) else (timesynclaw21_SampleWider.j0 k true bt364.1 bt364.2.1 bt364.2.2.1 bt364.2.2.2.1 bt376.1 bt376.2.1 bt376.2.2.1 bt376.2.2.2.1 bt382.1 bt382.2.1 bt382.2.2.1 bt382.2.2.2.1)) else (timesynclaw21_SampleWider.j0 k true bt364.1 bt364.2.1 bt364.2.2.1 bt364.2.2.2.1 bt376.1 bt376.2.1 bt376.2.2.1 bt376.2.2.2.1 bt382.1 bt382.2.1 bt382.2.2.1 bt382.2.2.2.1)) else (timesynclaw21_SampleWider.j0 k true bt364.1 bt364.2.1 bt364.2.2.1 bt364.2.2.2.1 bt376.1 bt376.2.1 bt376.2.2.1 bt376.2.2.2.1 bt382.1 bt382.2.1 bt382.2.2.1 bt382.2.2.2.1)))))))
theorem timesynclaw21_SampleWider.mono_l : ∀ k, (∀ y0 y1 y2 y3 y4 y5 y6 y7 y8 y9 y10 y11 y12, LeO (timesynclaw21_SampleWider.j0 k y0 y1 y2 y3 y4 y5 y6 y7 y8 y9 y10 y11 y12) (timesynclaw21_SampleWider.j0 (k + 1) y0 y1 y2 y3 y4 y5 y6 y7 y8 y9 y10 y11 y12)) ∧ (∀ y0 y1 y2 y3 y4 y5 y6 y7 y8, LeO (timesynclaw21_SampleWider.j1 k y0 y1 y2 y3 y4 y5 y6 y7 y8) (timesynclaw21_SampleWider.j1 (k + 1) y0 y1 y2 y3 y4 y5 y6 y7 y8)) ∧ (∀ y0, LeO (timesynclaw21_SampleWider.j2 k y0) (timesynclaw21_SampleWider.j2 (k + 1) y0))
  | 0 => ⟨fun _ _ _ _ _ _ _ _ _ _ _ _ _ r h => by simp [timesynclaw21_SampleWider.j0] at h, fun _ _ _ _ _ _ _ _ _ r h => by simp [timesynclaw21_SampleWider.j1] at h, fun _ r h => by simp [timesynclaw21_SampleWider.j2] at h⟩
  | k + 1 => by
    obtain ⟨ih0, ih1, ih2⟩ := timesynclaw21_SampleWider.mono_l k
    refine ⟨?_, ?_, ?_⟩
    · intro y0 y1 y2 y3 y4 y5 y6 y7 y8 y9 y10 y11 y12
      unfold timesynclaw21_SampleWider.j0
      repeat' first
      | (with_reducible exact ih0 _ _ _ _ _ _ _ _ _ _ _ _ _)
      | (with_reducible exact ih1 _ _ _ _ _ _ _ _ _)
      | (with_reducible exact ih2 _)
      | (with_reducible exact sample_Grow.mono _ _ _ _ _ _ _)
      | (with_reducible exact sample_Of.mono _ _ _ _ _ _ _)
      | (with_reducible exact timesynclaw21_awake.mono _)
      | (with_reducible exact LeO.refl _)
      | (with_reducible exact LeO.none _)
      | (with_reducible refine LeO.ite ?_ ?_)
      | (with_reducible refine LeO.bind ?_ (fun _ => ?_))
      | exact ih0 _ _ _ _ _ _ _ _ _ _ _ _ _
      | exact ih1 _ _ _ _ _ _ _ _ _
      | exact ih2 _
      | exact sample_Grow.mono _ _ _ _ _ _ _
      | exact sample_Of.mono _ _ _ _ _ _ _
      | exact timesynclaw21_awake.mono _
      | exact LeO.none _
      | refine LeO.ite ?_ ?_
      | refine LeO.bind ?_ (fun _ => ?_)
    · intro y0 y1 y2 y3 y4 y5 y6 y7 y8
      unfold timesynclaw21_SampleWider.j1
      repeat' first
      | (with_reducible exact ih0 _ _ _ _ _ _ _ _ _ _ _ _ _)
      | (with_reducible exact ih1 _ _ _ _ _ _ _ _ _)
      | (with_reducible exact ih2 _)
      | (with_reducible exact sample_Grow.mono _ _ _ _ _ _ _)
      | (with_reducible exact sample_Of.mono _ _ _ _ _ _ _)
      | (with_reducible exact timesynclaw21_awake.mono _)
      | (with_reducible exact LeO.refl _)
      | (with_reducible exact LeO.none _)
      | (with_reducible refine LeO.ite ?_ ?_)
      | (with_reducible refine LeO.bind ?_ (fun _ => ?_))
      | exact ih0 _ _ _ _ _ _ _ _ _ _ _ _ _
      | exact ih1 _ _ _ _ _ _ _ _ _
      | exact ih2 _
      | exact sample_Grow.mono _ _ _ _ _ _ _
      | exact sample_Of.mono _ _ _ _ _ _ _
      | exact timesynclaw21_awake.mono _
      | exact LeO.none _
      | refine LeO.ite ?_ ?_
      | refine LeO.bind ?_ (fun _ => ?_)
    · intro y0
      unfold timesynclaw21_SampleWider.j2
      repeat' first
      | (with_reducible exact ih0 _ _ _ _ _ _ _ _ _ _ _ _ _)
      | (with_reducible exact ih1 _ _ _ _ _ _ _ _ _)
      | (with_reducible exact ih2 _)
      | (with_reducible exact sample_Grow.mono _ _ _ _ _ _ _)
      | (with_reducible exact sample_Of.mono _ _ _ _ _ _ _)
      | (with_reducible exact timesynclaw21_awake.mono _)
      | (with_reducible exact LeO.refl _)
      | (with_reducible exact LeO.none _)
      | (with_reducible refine LeO.ite ?_ ?_)
      | (with_reducible refine LeO.bind ?_ (fun _ => ?_))
      | exact ih0 _ _ _ _ _ _ _ _ _ _ _ _ _
      | exact ih1 _ _ _ _ _ _ _ _ _
      | exact ih2 _
      | exact sample_Grow.mono _ _ _ _ _ _ _
      | exact sample_Of.mono _ _ _ _ _ _ _
      | exact timesynclaw21_awake.mono _
      | exact LeO.none _
      | refine LeO.ite ?_ ?_
      | refine LeO.bind ?_ (fun _ => ?_)
theorem timesynclaw21_SampleWider.mono : ∀ a0 a1 a2 a3 a4 a5 a6 a7 a8 k, LeO (timesynclaw21_SampleWider.f k a0 a1 a2 a3 a4 a5 a6 a7 a8) (timesynclaw21_SampleWider.f (k + 1) a0 a1 a2 a3 a4 a5 a6 a7 a8) := by
  intro a0 a1 a2 a3 a4 a5 a6 a7 a8 k
  obtain ⟨ih0, ih1, ih2⟩ := timesynclaw21_SampleWider.mono_l k
  unfold timesynclaw21_SampleWider.f
  repeat' first
      | (with_reducible exact ih0 _ _ _ _ _ _ _ _ _ _ _ _ _)
      | (with_reducible exact ih1 _ _ _ _ _ _ _ _ _)
      | (with_reducible exact ih2 _)
      | (with_reducible exact sample_Grow.mono _ _ _ _ _ _ _)
      | (with_reducible exact sample_Of.mono _ _ _ _ _ _ _)
      | (with_reducible exact timesynclaw21_awake.mono _)
      | (with_reducible exact LeO.refl _)
      | (with_reducible exact LeO.none _)
      | (with_reducible refine LeO.ite ?_ ?_)
      | (with_reducible refine LeO.bind ?_ (fun _ => ?_))
      | exact ih0 _ _ _ _ _ _ _ _ _ _ _ _ _
      | exact ih1 _ _ _ _ _ _ _ _ _
      | exact ih2 _
      | exact sample_Grow.mono _ _ _ _ _ _ _
      | exact sample_Of.mono _ _ _ _ _ _ _
      | exact timesynclaw21_awake.mono _
      | exact LeO.none _
      | refine LeO.ite ?_ ?_
      | refine LeO.bind ?_ (fun _ => ?_)
def timesynclaw21_SampleWider.T9 : Bool × List (List Nat × List Nat) := (true, [([], []), ([0], [0]), ([], []), ([2, 1], [2]), ([], []), ([], []), ([4, 1, 3, 0, 1, 4, 5], [1, 4]), ([5, 3, 6, 0, 1, 2, 3, 4, 5, 6], [3, 5])])
def timesynclaw21_SampleWider.B9 : List Nat := [0, 1, 0, 7, 0, 0, 63, 127]
theorem timesynclaw21_SampleWider.tab9 : rtab .any (opsOf Try.f9 9) = timesynclaw21_SampleWider.T9 := by kernel_rfl
theorem timesynclaw21_SampleWider.bits9 : waitsOk timesynclaw21_SampleWider.T9.2 timesynclaw21_SampleWider.B9 = true := by kernel_rfl
abbrev b9_0 : Array Bool := #[false, false, false, false, false, false, false, false]
abbrev b9_1 : Array Bool := #[true, false, false, false, false, false, false, false]
abbrev b9_2 : Array Bool := #[true, false, true, false, false, false, false, false]
abbrev b9_3 : Array Bool := #[true, true, true, true, true, true, false, false]
abbrev b9_4 : Array Bool := #[true, true, true, true, true, false, false, false]
abbrev b9_5 : Array Bool := #[true, true, true, true, false, true, false, false]
abbrev b9_6 : Array Bool := #[true, true, true, false, true, true, false, false]
abbrev b9_7 : Array Bool := #[true, true, true, true, false, false, false, false]
abbrev b9_8 : Array Bool := #[true, true, true, false, true, false, false, false]
abbrev b9_9 : Array Bool := #[true, true, true, false, false, true, false, false]
abbrev b9_10 : Array Bool := #[true, false, true, false, true, true, false, false]
abbrev b9_11 : Array Bool := #[true, true, true, false, false, false, false, false]
abbrev b9_12 : Array Bool := #[true, false, true, false, true, false, false, false]
abbrev b9_13 : Array Bool := #[true, false, true, false, false, true, false, false]
abbrev b9_14 : Array Bool := #[true, true, true, true, true, true, true, false]
abbrev b9_15 : Array Bool := #[true, true, true, true, true, true, true, true]
set_option maxHeartbeats 8000000 in
set_option maxRecDepth 100000 in
theorem timesynclaw21_SampleWider.calls (k : Nat) (a0_0 : Int) (a0_1 : Int) (a0_2 : Int) (a0_3 : Int) (a0_4 : Int) (a0_5 : Int) (a1 : Int) (a2 : Int) (a3 : Int) (r : Bool) (w : World) (h : timesynclaw21_SampleWider.f k a0_0 a0_1 a0_2 a0_3 a0_4 a0_5 a1 a2 a3 = some r) :
    Calls Try.prog 9 #[.agg #[.int .u32 a0_0, .int .u32 a0_1, .int .u32 a0_2, .int .i32 a0_3, .int .i32 a0_4, .int .i32 a0_5], .int .u32 a1, .int .u32 a2, .int .u32 a3] w fun e w' => e = .returned (.bool r) ∧ Below w.heap.size w w' := by
  have hu39 := Try.underlying39
  have hu25 := Try.underlying25
  have hu34 := Try.underlying34
  have HB := Aside0.mk (Below.refl w.heap.size w)
  have H : ((timesynclaw21_quad.f a0_0 a0_1 a0_2 a0_3 a0_4 a0_5 0).bind fun bt360 => ((sample_Of.f k bt360.1 bt360.2.1 bt360.2.2.1 bt360.2.2.2 1 (Int.tmod (wrap64 (a3)) 500001)).bind fun bt364 => ((sample_Grow.f k bt364.1 bt364.2.1 bt364.2.2.1 bt364.2.2.2.1 (wrap64 (bt364.2.2.2.1 + (wrap64 (a1)))) (Int.tmod (wrap64 (a3)) 500001)).bind fun bt370 => ((sample_Grow.f k bt370.1 bt370.2.1 bt370.2.2.1 bt370.2.2.2.1 (wrap64 (bt370.2.2.2.1 + (wrap64 (a2)))) (Int.tmod (wrap64 (a3)) 500001)).bind fun bt376 => ((sample_Grow.f k bt364.1 bt364.2.1 bt364.2.2.1 bt364.2.2.2.1 (wrap64 ((wrap64 (bt364.2.2.2.1 + (wrap64 (a1)))) + (wrap64 (a2)))) (Int.tmod (wrap64 (a3)) 500001)).bind fun bt382 => ((sample_Grow.f k bt364.1 bt364.2.1 bt364.2.2.1 bt364.2.2.2.1 bt364.2.2.2.1 (Int.tmod (wrap64 (a3)) 500001)).bind fun bt388 => (if bt364.2.2.2.2 = 0 then (if bt370.2.2.2.2 = 0 then (if bt376.2.2.2.2 = 0 then (if bt382.2.2.2.2 = 0 then (if bt388.2.2.2.2 = 0 then (timesynclaw21_SampleWider.j0 k (!(bt388.1 == bt364.1) || (!(bt388.2.1 == bt364.2.1) || (!(bt388.2.2.1 == bt364.2.2.1) || (!(bt388.2.2.2.1 == bt364.2.2.2.1))))) bt364.1 bt364.2.1 bt364.2.2.1 bt364.2.2.2.1 bt376.1 bt376.2.1 bt376.2.2.1 bt376.2.2.2.1 bt382.1 bt382.2.1 bt382.2.2.1 bt382.2.2.2.1) else (timesynclaw21_SampleWider.j0 k true bt364.1 bt364.2.1 bt364.2.2.1 bt364.2.2.2.1 bt376.1 bt376.2.1 bt376.2.2.1 bt376.2.2.2.1 bt382.1 bt382.2.1 bt382.2.2.1 bt382.2.2.2.1)) else (timesynclaw21_SampleWider.j0 k true bt364.1 bt364.2.1 bt364.2.2.1 bt364.2.2.2.1 bt376.1 bt376.2.1 bt376.2.2.1 bt376.2.2.2.1 bt382.1 bt382.2.1 bt382.2.2.1 bt382.2.2.2.1)) else (timesynclaw21_SampleWider.j0 k true bt364.1 bt364.2.1 bt364.2.2.1 bt364.2.2.2.1 bt376.1 bt376.2.1 bt376.2.2.1 bt376.2.2.2.1 bt382.1 bt382.2.1 bt382.2.2.1 bt382.2.2.2.1)) else (timesynclaw21_SampleWider.j0 k true bt364.1 bt364.2.1 bt364.2.2.1 bt364.2.2.2.1 bt376.1 bt376.2.1 bt376.2.2.1 bt376.2.2.2.1 bt382.1 bt382.2.1 bt382.2.2.1 bt382.2.2.2.1)) else (timesynclaw21_SampleWider.j0 k true bt364.1 bt364.2.1 bt364.2.2.1 bt364.2.2.2.1 bt376.1 bt376.2.1 bt376.2.2.1 bt376.2.2.2.1 bt382.1 bt382.2.1 bt382.2.2.1 bt382.2.2.2.1)))))))) = some r := h
  clear h
  replace H := Option.bind_eq_some_iff.mp H
  obtain ⟨⟨t360, t361, t362, t363⟩, A50, H⟩ := H
  replace H : ((sample_Of.f k t360 t361 t362 t363 1 (Int.tmod (wrap64 (a3)) 500001)).bind fun bt364 => ((sample_Grow.f k bt364.1 bt364.2.1 bt364.2.2.1 bt364.2.2.2.1 (wrap64 (bt364.2.2.2.1 + (wrap64 (a1)))) (Int.tmod (wrap64 (a3)) 500001)).bind fun bt370 => ((sample_Grow.f k bt370.1 bt370.2.1 bt370.2.2.1 bt370.2.2.2.1 (wrap64 (bt370.2.2.2.1 + (wrap64 (a2)))) (Int.tmod (wrap64 (a3)) 500001)).bind fun bt376 => ((sample_Grow.f k bt364.1 bt364.2.1 bt364.2.2.1 bt364.2.2.2.1 (wrap64 ((wrap64 (bt364.2.2.2.1 + (wrap64 (a1)))) + (wrap64 (a2)))) (Int.tmod (wrap64 (a3)) 500001)).bind fun bt382 => ((sample_Grow.f k bt364.1 bt364.2.1 bt364.2.2.1 bt364.2.2.2.1 bt364.2.2.2.1 (Int.tmod (wrap64 (a3)) 500001)).bind fun bt388 => (if bt364.2.2.2.2 = 0 then (if bt370.2.2.2.2 = 0 then (if bt376.2.2.2.2 = 0 then (if bt382.2.2.2.2 = 0 then (if bt388.2.2.2.2 = 0 then (timesynclaw21_SampleWider.j0 k (!(bt388.1 == bt364.1) || (!(bt388.2.1 == bt364.2.1) || (!(bt388.2.2.1 == bt364.2.2.1) || (!(bt388.2.2.2.1 == bt364.2.2.2.1))))) bt364.1 bt364.2.1 bt364.2.2.1 bt364.2.2.2.1 bt376.1 bt376.2.1 bt376.2.2.1 bt376.2.2.2.1 bt382.1 bt382.2.1 bt382.2.2.1 bt382.2.2.2.1) else (timesynclaw21_SampleWider.j0 k true bt364.1 bt364.2.1 bt364.2.2.1 bt364.2.2.2.1 bt376.1 bt376.2.1 bt376.2.2.1 bt376.2.2.2.1 bt382.1 bt382.2.1 bt382.2.2.1 bt382.2.2.2.1)) else (timesynclaw21_SampleWider.j0 k true bt364.1 bt364.2.1 bt364.2.2.1 bt364.2.2.2.1 bt376.1 bt376.2.1 bt376.2.2.1 bt376.2.2.2.1 bt382.1 bt382.2.1 bt382.2.2.1 bt382.2.2.2.1)) else (timesynclaw21_SampleWider.j0 k true bt364.1 bt364.2.1 bt364.2.2.1 bt364.2.2.2.1 bt376.1 bt376.2.1 bt376.2.2.1 bt376.2.2.2.1 bt382.1 bt382.2.1 bt382.2.2.1 bt382.2.2.2.1)) else (timesynclaw21_SampleWider.j0 k true bt364.1 bt364.2.1 bt364.2.2.1 bt364.2.2.2.1 bt376.1 bt376.2.1 bt376.2.2.1 bt376.2.2.2.1 bt382.1 bt382.2.1 bt382.2.2.1 bt382.2.2.2.1)) else (timesynclaw21_SampleWider.j0 k true bt364.1 bt364.2.1 bt364.2.2.1 bt364.2.2.2.1 bt376.1 bt376.2.1 bt376.2.2.1 bt376.2.2.2.1 bt382.1 bt382.2.1 bt382.2.2.1 bt382.2.2.2.1))))))) = some r := H
  have A5 := Aside0.mk A50
  clear A50
  replace H := Option.bind_eq_some_iff.mp H
  obtain ⟨⟨t364, t365, t366, t367, t368⟩, A60, H⟩ := H
  replace H : ((sample_Grow.f k t364 t365 t366 t367 (wrap64 (t367 + (wrap64 (a1)))) (Int.tmod (wrap64 (a3)) 500001)).bind fun bt370 => ((sample_Grow.f k bt370.1 bt370.2.1 bt370.2.2.1 bt370.2.2.2.1 (wrap64 (bt370.2.2.2.1 + (wrap64 (a2)))) (Int.tmod (wrap64 (a3)) 500001)).bind fun bt376 => ((sample_Grow.f k t364 t365 t366 t367 (wrap64 ((wrap64 (t367 + (wrap64 (a1)))) + (wrap64 (a2)))) (Int.tmod (wrap64 (a3)) 500001)).bind fun bt382 => ((sample_Grow.f k t364 t365 t366 t367 t367 (Int.tmod (wrap64 (a3)) 500001)).bind fun bt388 => (if t368 = 0 then (if bt370.2.2.2.2 = 0 then (if bt376.2.2.2.2 = 0 then (if bt382.2.2.2.2 = 0 then (if bt388.2.2.2.2 = 0 then (timesynclaw21_SampleWider.j0 k (!(bt388.1 == t364) || (!(bt388.2.1 == t365) || (!(bt388.2.2.1 == t366) || (!(bt388.2.2.2.1 == t367))))) t364 t365 t366 t367 bt376.1 bt376.2.1 bt376.2.2.1 bt376.2.2.2.1 bt382.1 bt382.2.1 bt382.2.2.1 bt382.2.2.2.1) else (timesynclaw21_SampleWider.j0 k true t364 t365 t366 t367 bt376.1 bt376.2.1 bt376.2.2.1 bt376.2.2.2.1 bt382.1 bt382.2.1 bt382.2.2.1 bt382.2.2.2.1)) else (timesynclaw21_SampleWider.j0 k true t364 t365 t366 t367 bt376.1 bt376.2.1 bt376.2.2.1 bt376.2.2.2.1 bt382.1 bt382.2.1 bt382.2.2.1 bt382.2.2.2.1)) else (timesynclaw21_SampleWider.j0 k true t364 t365 t366 t367 bt376.1 bt376.2.1 bt376.2.2.1 bt376.2.2.2.1 bt382.1 bt382.2.1 bt382.2.2.1 bt382.2.2.2.1)) else (timesynclaw21_SampleWider.j0 k true t364 t365 t366 t367 bt376.1 bt376.2.1 bt376.2.2.1 bt376.2.2.2.1 bt382.1 bt382.2.1 bt382.2.2.1 bt382.2.2.2.1)) else (timesynclaw21_SampleWider.j0 k true t364 t365 t366 t367 bt376.1 bt376.2.1 bt376.2.2.1 bt376.2.2.2.1 bt382.1 bt382.2.1 bt382.2.2.1 bt382.2.2.2.1)))))) = some r := H
  have A6 := Aside0.mk A60
  clear A60
  replace H := Option.bind_eq_some_iff.mp H
  obtain ⟨⟨t370, t371, t372, t373, t374⟩, A70, H⟩ := H
  replace H : ((sample_Grow.f k t370 t371 t372 t373 (wrap64 (t373 + (wrap64 (a2)))) (Int.tmod (wrap64 (a3)) 500001)).bind fun bt376 => ((sample_Grow.f k t364 t365 t366 t367 (wrap64 ((wrap64 (t367 + (wrap64 (a1)))) + (wrap64 (a2)))) (Int.tmod (wrap64 (a3)) 500001)).bind fun bt382 => ((sample_Grow.f k t364 t365 t366 t367 t367 (Int.tmod (wrap64 (a3)) 500001)).bind fun bt388 => (if t368 = 0 then (if t374 = 0 then (if bt376.2.2.2.2 = 0 then (if bt382.2.2.2.2 = 0 then (if bt388.2.2.2.2 = 0 then (timesynclaw21_SampleWider.j0 k (!(bt388.1 == t364) || (!(bt388.2.1 == t365) || (!(bt388.2.2.1 == t366) || (!(bt388.2.2.2.1 == t367))))) t364 t365 t366 t367 bt376.1 bt376.2.1 bt376.2.2.1 bt376.2.2.2.1 bt382.1 bt382.2.1 bt382.2.2.1 bt382.2.2.2.1) else (timesynclaw21_SampleWider.j0 k true t364 t365 t366 t367 bt376.1 bt376.2.1 bt376.2.2.1 bt376.2.2.2.1 bt382.1 bt382.2.1 bt382.2.2.1 bt382.2.2.2.1)) else (timesynclaw21_SampleWider.j0 k true t364 t365 t366 t367 bt376.1 bt376.2.1 bt376.2.2.1 bt376.2.2.2.1 bt382.1 bt382.2.1 bt382.2.2.1 bt382.2.2.2.1)) else (timesynclaw21_SampleWider.j0 k true t364 t365 t366 t367 bt376.1 bt376.2.1 bt376.2.2.1 bt376.2.2.2.1 bt382.1 bt382.2.1 bt382.2.2.1 bt382.2.2.2.1)) else (timesynclaw21_SampleWider.j0 k true t364 t365 t366 t367 bt376.1 bt376.2.1 bt376.2.2.1 bt376.2.2.2.1 bt382.1 bt382.2.1 bt382.2.2.1 bt382.2.2.2.1)) else (timesynclaw21_SampleWider.j0 k true t364 t365 t366 t367 bt376.1 bt376.2.1 bt376.2.2.1 bt376.2.2.2.1 bt382.1 bt382.2.1 bt382.2.2.1 bt382.2.2.2.1))))) = some r := H
  have A7 := Aside0.mk A70
  clear A70
  replace H := Option.bind_eq_some_iff.mp H
  obtain ⟨⟨t376, t377, t378, t379, t380⟩, A80, H⟩ := H
  replace H : ((sample_Grow.f k t364 t365 t366 t367 (wrap64 ((wrap64 (t367 + (wrap64 (a1)))) + (wrap64 (a2)))) (Int.tmod (wrap64 (a3)) 500001)).bind fun bt382 => ((sample_Grow.f k t364 t365 t366 t367 t367 (Int.tmod (wrap64 (a3)) 500001)).bind fun bt388 => (if t368 = 0 then (if t374 = 0 then (if t380 = 0 then (if bt382.2.2.2.2 = 0 then (if bt388.2.2.2.2 = 0 then (timesynclaw21_SampleWider.j0 k (!(bt388.1 == t364) || (!(bt388.2.1 == t365) || (!(bt388.2.2.1 == t366) || (!(bt388.2.2.2.1 == t367))))) t364 t365 t366 t367 t376 t377 t378 t379 bt382.1 bt382.2.1 bt382.2.2.1 bt382.2.2.2.1) else (timesynclaw21_SampleWider.j0 k true t364 t365 t366 t367 t376 t377 t378 t379 bt382.1 bt382.2.1 bt382.2.2.1 bt382.2.2.2.1)) else (timesynclaw21_SampleWider.j0 k true t364 t365 t366 t367 t376 t377 t378 t379 bt382.1 bt382.2.1 bt382.2.2.1 bt382.2.2.2.1)) else (timesynclaw21_SampleWider.j0 k true t364 t365 t366 t367 t376 t377 t378 t379 bt382.1 bt382.2.1 bt382.2.2.1 bt382.2.2.2.1)) else (timesynclaw21_SampleWider.j0 k true t364 t365 t366 t367 t376 t377 t378 t379 bt382.1 bt382.2.1 bt382.2.2.1 bt382.2.2.2.1)) else (timesynclaw21_SampleWider.j0 k true t364 t365 t366 t367 t376 t377 t378 t379 bt382.1 bt382.2.1 bt382.2.2.1 bt382.2.2.2.1)))) = some r := H
  have A8 := Aside0.mk A80
  clear A80
  replace H := Option.bind_eq_some_iff.mp H
  obtain ⟨⟨t382, t383, t384, t385, t386⟩, A90, H⟩ := H
  replace H : ((sample_Grow.f k t364 t365 t366 t367 t367 (Int.tmod (wrap64 (a3)) 500001)).bind fun bt388 => (if t368 = 0 then (if t374 = 0 then (if t380 = 0 then (if t386 = 0 then (if bt388.2.2.2.2 = 0 then (timesynclaw21_SampleWider.j0 k (!(bt388.1 == t364) || (!(bt388.2.1 == t365) || (!(bt388.2.2.1 == t366) || (!(bt388.2.2.2.1 == t367))))) t364 t365 t366 t367 t376 t377 t378 t379 t382 t383 t384 t385) else (timesynclaw21_SampleWider.j0 k true t364 t365 t366 t367 t376 t377 t378 t379 t382 t383 t384 t385)) else (timesynclaw21_SampleWider.j0 k true t364 t365 t366 t367 t376 t377 t378 t379 t382 t383 t384 t385)) else (timesynclaw21_SampleWider.j0 k true t364 t365 t366 t367 t376 t377 t378 t379 t382 t383 t384 t385)) else (timesynclaw21_SampleWider.j0 k true t364 t365 t366 t367 t376 t377 t378 t379 t382 t383 t384 t385)) else (timesynclaw21_SampleWider.j0 k true t364 t365 t366 t367 t376 t377 t378 t379 t382 t383 t384 t385))) = some r := H
  have A9 := Aside0.mk A90
  clear A90
  replace H := Option.bind_eq_some_iff.mp H
  obtain ⟨⟨t388, t389, t390, t391, t392⟩, A100, H⟩ := H
  replace H : (if t368 = 0 then (if t374 = 0 then (if t380 = 0 then (if t386 = 0 then (if t392 = 0 then (timesynclaw21_SampleWider.j0 k (!(t388 == t364) || (!(t389 == t365) || (!(t390 == t366) || (!(t391 == t367))))) t364 t365 t366 t367 t376 t377 t378 t379 t382 t383 t384 t385) else (timesynclaw21_SampleWider.j0 k true t364 t365 t366 t367 t376 t377 t378 t379 t382 t383 t384 t385)) else (timesynclaw21_SampleWider.j0 k true t364 t365 t366 t367 t376 t377 t378 t379 t382 t383 t384 t385)) else (timesynclaw21_SampleWider.j0 k true t364 t365 t366 t367 t376 t377 t378 t379 t382 t383 t384 t385)) else (timesynclaw21_SampleWider.j0 k true t364 t365 t366 t367 t376 t377 t378 t379 t382 t383 t384 t385)) else (timesynclaw21_SampleWider.j0 k true t364 t365 t366 t367 t376 t377 t378 t379 t382 t383 t384 t385)) = some r := H
  have A10 := Aside0.mk A100
  clear A100
  have HC11 := Aside0.mk H
  clear H
  go_enter Try.func9, Try.ntmps9
  go_upto_region 7 with (first | ((with_reducible refine gate_dst (N := 4) rfl ?_); refine box_event ?hg (N := 4) ?hd (cs := #[.int .u32 a0_0, .int .u32 a0_1, .int .u32 a0_2, .int .i32 a0_3, .int .i32 a0_4, .int .i32 a0_5]) (t := 39) ?hr ?_; (case hd => rfl); (case hg => rfl); (case hr => first | (go_simp; done) | (go_simp; rfl)); intro gb359 hg w12 hbox hb; have n0_ := Aside0.mk (below_step hb_ hb); have n1_ := Aside0.mk (hbox); have n2_ := Aside0.mk ((by rw [hg]; exact (below_size hb_) : w.heap.size ≤ gb359)); have n3_ := Aside0.mk ((by rw [hg]; exact (below_size hb_) : w.heap.size ≤ gb359)); clear HB; have HB := n0_; have BK359 := n1_; have GW359 := n2_; have GE359 := n3_; clear n0_ n1_ n2_ n3_; clear hb hbox hg; obtain ⟨hcz13_0, hcz13_1, hcz13_2, hcz13_3, hcz13_4, hcz13_5⟩ := cs6 BK359.out; obtain ⟨hfz13_0, hfz13_1, hfz13_2, hfz13_3, hfz13_4, hfz13_5⟩ := fs6 BK359.out) | ((with_reducible refine gate_callee (f := 19) rfl ?_); refine goesL_ (some 27) rfl rfl Try.func19 (by kernel_rfl) rfl #[.agg #[.int .u32 a0_0, .int .u32 a0_1, .int .u32 a0_2, .int .i32 a0_3, .int .i32 a0_4, .int .i32 a0_5], .int .i64 0] rfl sl_ ?_; (with_reducible refine (timesynclaw21_quad.calls a0_0 a0_1 a0_2 a0_3 a0_4 a0_5 0 t360 t361 t362 t363 _ A5.out).mono ?_); rintro e w14 ⟨rfl, hb⟩; refine ⟨_, rfl, ?_⟩; have n0_ := Aside0.mk (bb BK359.out hb); have n1_ := Aside0.mk (below_step hb_ hb); clear BK359; clear HB; have BK359 := n0_; have HB := n1_; clear n0_ n1_; (try clear hb); (try clear hb2); (try clear hk); (try clear hi)) | ((with_reducible refine gate_callee (f := 10) rfl ?_); refine goesL_ (some 29) rfl rfl Try.func10 (by kernel_rfl) rfl #[.agg #[.int .i64 t360, .int .i64 t361, .int .i64 t362, .int .i64 t363], .int .i64 1, .int .i64 (Int.tmod (wrap64 (a3)) 500001)] rfl sl_ ?_; (with_reducible refine (sample_Of.calls k t360 t361 t362 t363 1 (Int.tmod (wrap64 (a3)) 500001) t364 t365 t366 t367 t368 _ A6.out).mono ?_); rintro e w15 ⟨rfl, hb⟩; refine ⟨_, rfl, ?_⟩; have n0_ := Aside0.mk (bb BK359.out hb); have n1_ := Aside0.mk (below_step hb_ hb); clear BK359; clear HB; have BK359 := n0_; have HB := n1_; clear n0_ n1_; (try clear hb); (try clear hb2); (try clear hk); (try clear hi)) | ((with_reducible refine gate_dst (N := 10) rfl ?_); refine box_event ?hg (N := 10) ?hd (cs := #[.int .i64 0, .int .i64 0, .int .i64 0, .int .i64 0]) (t := 25) ?hr ?_; (case hd => rfl); (case hg => rfl); (case hr => first | (go_simp; done) | (go_simp; rfl)); intro gb369 hg w16 hbox hb; have n0_ := Aside0.mk (bb BK359.out hb); have n1_ := Aside0.mk (below_step hb_ hb); have n2_ := Aside0.mk (hbox); have n3_ := Aside0.mk ((by rw [hg]; exact (below_size hb_) : w.heap.size ≤ gb369)); have n4_ := Aside0.mk ((by rw [hg]; exact (below_size hb_) : w.heap.size ≤ gb369)); have n5_ := Aside0.mk ((by rw [hg]; exact Nat.ne_of_lt (bl BK359.out) : gb359 ≠ gb369)); have n6_ := Aside0.mk ((by rw [hg]; exact Nat.ne_of_gt (bl BK359.out) : gb369 ≠ gb359)); clear BK359; clear HB; have BK359 := n0_; have HB := n1_; have BK369 := n2_; have GW369 := n3_; have GE369 := n4_; have NB359_369 := n5_; have NB369_359 := n6_; clear n0_ n1_ n2_ n3_ n4_ n5_ n6_; clear hb hbox hg; have hnb17 := NB369_359.out; have hnc17 := NB359_369.out; obtain ⟨hcz18_0, hcz18_1, hcz18_2, hcz18_3⟩ := cs4 BK369.out; obtain ⟨hfz18_0, hfz18_1, hfz18_2, hfz18_3⟩ := fs4 BK369.out) | ((with_reducible refine gate_callee (f := 20) rfl ?_); refine goesL_ (some 40) rfl rfl Try.func20 (by kernel_rfl) rfl #[.agg #[.int .i64 t364, .int .i64 t365, .int .i64 t366, .int .i64 t367], .int .i64 (wrap64 (t367 + (wrap64 (a1)))), .int .i64 (Int.tmod (wrap64 (a3)) 500001)] rfl sl_ ?_; (with_reducible refine (sample_Grow.calls k t364 t365 t366 t367 (wrap64 (t367 + (wrap64 (a1)))) (Int.tmod (wrap64 (a3)) 500001) t370 t371 t372 t373 t374 _ A7.out).mono ?_); rintro e w19 ⟨rfl, hb⟩; refine ⟨_, rfl, ?_⟩; have n0_ := Aside0.mk (blk_below (g := gb359) (o := .cells #[.int .u32 a0_0, .int .u32 a0_1, .int .u32 a0_2, .int .i32 a0_3, .int .i32 a0_4, .int .i32 a0_5] 39 (0, 0)) (bf BK359.out NB359_369.out) hb); have n1_ := Aside0.mk (blk_below (g := gb369) (o := .cells #[.int .i64 t364, .int .i64 t365, .int .i64 t366, .int .i64 t367] 25 (0, 0)) (by (with_reducible repeat (first | refine blk_drewN ?_ _ | refine blk_drew ?_ | refine blk_alloc ?_ _)); refine blk_put (cs := #[.int .i64 t364, .int .i64 t365, .int .i64 t366, .int .i64 0]) ?_ 3 _ rfl; (with_reducible repeat (first | refine blk_drewN ?_ _ | refine blk_drew ?_ | refine blk_alloc ?_ _)); refine blk_put (cs := #[.int .i64 t364, .int .i64 t365, .int .i64 0, .int .i64 0]) ?_ 2 _ rfl; (with_reducible repeat (first | refine blk_drewN ?_ _ | refine blk_drew ?_ | refine blk_alloc ?_ _)); refine blk_put (cs := #[.int .i64 t364, .int .i64 0, .int .i64 0, .int .i64 0]) ?_ 1 _ rfl; (with_reducible repeat (first | refine blk_drewN ?_ _ | refine blk_drew ?_ | refine blk_alloc ?_ _)); refine blk_put (cs := #[.int .i64 0, .int .i64 0, .int .i64 0, .int .i64 0]) ?_ 0 _ rfl; (with_reducible repeat (first | refine blk_drewN ?_ _ | refine blk_drew ?_ | refine blk_alloc ?_ _)); exact BK369.out) hb); have n2_ := Aside0.mk (below_step hb_ hb); clear BK359; clear BK369; clear HB; have BK359 := n0_; have BK369 := n1_; have HB := n2_; clear n0_ n1_ n2_; (try clear hb); (try clear hb2); (try clear hk); (try clear hi)) | ((with_reducible refine gate_dst (N := 12) rfl ?_); refine box_event ?hg (N := 12) ?hd (cs := #[.int .i64 0, .int .i64 0, .int .i64 0, .int .i64 0]) (t := 25) ?hr ?_; (case hd => rfl); (case hg => rfl); (case hr => first | (go_simp; done) | (go_simp; rfl)); intro gb375 hg w20 hbox hb; have n0_ := Aside0.mk (bb BK359.out hb); have n1_ := Aside0.mk (bb BK369.out hb); have n2_ := Aside0.mk (below_step hb_ hb); have n3_ := Aside0.mk (hbox); have n4_ := Aside0.mk ((by rw [hg]; exact (below_size hb_) : w.heap.size ≤ gb375)); have n5_ := Aside0.mk ((by rw [hg]; exact (below_size hb_) : w.heap.size ≤ gb375)); have n6_ := Aside0.mk ((by rw [hg]; exact Nat.ne_of_lt (bl BK359.out) : gb359 ≠ gb375)); have n7_ := Aside0.mk ((by rw [hg]; exact Nat.ne_of_gt (bl BK359.out) : gb375 ≠ gb359)); have n8_ := Aside0.mk ((by rw [hg]; exact Nat.ne_of_lt (bl BK369.out) : gb369 ≠ gb375)); have n9_ := Aside0.mk ((by rw [hg]; exact Nat.ne_of_gt (bl BK369.out) : gb375 ≠ gb369)); clear BK359; clear BK369; clear HB; have BK359 := n0_; have BK369 := n1_; have HB := n2_; have BK375 := n3_; have GW375 := n4_; have GE375 := n5_; have NB359_375 := n6_; have NB375_359 := n7_; have NB369_375 := n8_; have NB375_369 := n9_; clear n0_ n1_ n2_ n3_ n4_ n5_ n6_ n7_ n8_ n9_; clear hb hbox hg; have hnb21 := NB375_359.out; have hnc21 := NB359_375.out; have hnb22 := NB375_369.out; have hnc22 := NB369_375.out; obtain ⟨hcz23_0, hcz23_1, hcz23_2, hcz23_3⟩ := cs4 BK375.out; obtain ⟨hfz23_0, hfz23_1, hfz23_2, hfz23_3⟩ := fs4 BK375.out) | ((with_reducible refine gate_callee (f := 20) rfl ?_); refine goesL_ (some 51) rfl rfl Try.func20 (by kernel_rfl) rfl #[.agg #[.int .i64 t370, .int .i64 t371, .int .i64 t372, .int .i64 t373], .int .i64 (wrap64 (t373 + (wrap64 (a2)))), .int .i64 (Int.tmod (wrap64 (a3)) 500001)] rfl sl_ ?_; (with_reducible refine (sample_Grow.calls k t370 t371 t372 t373 (wrap64 (t373 + (wrap64 (a2)))) (Int.tmod (wrap64 (a3)) 500001) t376 t377 t378 t379 t380 _ A8.out).mono ?_); rintro e w24 ⟨rfl, hb⟩; refine ⟨_, rfl, ?_⟩; have n0_ := Aside0.mk (blk_below (g := gb359) (o := .cells #[.int .u32 a0_0, .int .u32 a0_1, .int .u32 a0_2, .int .i32 a0_3, .int .i32 a0_4, .int .i32 a0_5] 39 (0, 0)) (bf BK359.out NB359_375.out) hb); have n1_ := Aside0.mk (blk_below (g := gb369) (o := .cells #[.int .i64 t364, .int .i64 t365, .int .i64 t366, .int .i64 t367] 25 (0, 0)) (bf BK369.out NB369_375.out) hb); have n2_ := Aside0.mk (blk_below (g := gb375) (o := .cells #[.int .i64 t370, .int .i64 t371, .int .i64 t372, .int .i64 t373] 25 (0, 0)) (by (with_reducible repeat (first | refine blk_drewN ?_ _ | refine blk_drew ?_ | refine blk_alloc ?_ _)); refine blk_put (cs := #[.int .i64 t370, .int .i64 t371, .int .i64 t372, .int .i64 0]) ?_ 3 _ rfl; (with_reducible repeat (first | refine blk_drewN ?_ _ | refine blk_drew ?_ | refine blk_alloc ?_ _)); refine blk_put (cs := #[.int .i64 t370, .int .i64 t371, .int .i64 0, .int .i64 0]) ?_ 2 _ rfl; (with_reducible repeat (first | refine blk_drewN ?_ _ | refine blk_drew ?_ | refine blk_alloc ?_ _)); refine blk_put (cs := #[.int .i64 t370, .int .i64 0, .int .i64 0, .int .i64 0]) ?_ 1 _ rfl; (with_reducible repeat (first | refine blk_drewN ?_ _ | refine blk_drew ?_ | refine blk_alloc ?_ _)); refine blk_put (cs := #[.int .i64 0, .int .i64 0, .int .i64 0, .int .i64 0]) ?_ 0 _ rfl; (with_reducible repeat (first | refine blk_drewN ?_ _ | refine blk_drew ?_ | refine blk_alloc ?_ _)); exact BK375.out) hb); have n3_ := Aside0.mk (below_step hb_ hb); clear BK359; clear BK369; clear BK375; clear HB; have BK359 := n0_; have BK369 := n1_; have BK375 := n2_; have HB := n3_; clear n0_ n1_ n2_ n3_; (try clear hb); (try clear hb2); (try clear hk); (try clear hi)) | ((with_reducible refine gate_dst (N := 14) rfl ?_); refine box_event ?hg (N := 14) ?hd (cs := #[.int .i64 0, .int .i64 0, .int .i64 0, .int .i64 0]) (t := 25) ?hr ?_; (case hd => rfl); (case hg => rfl); (case hr => first | (go_simp; done) | (go_simp; rfl)); intro gb381 hg w25 hbox hb; have n0_ := Aside0.mk (bb BK359.out hb); have n1_ := Aside0.mk (bb BK369.out hb); have n2_ := Aside0.mk (bb BK375.out hb); have n3_ := Aside0.mk (below_step hb_ hb); have n4_ := Aside0.mk (hbox); have n5_ := Aside0.mk ((by rw [hg]; exact (below_size hb_) : w.heap.size ≤ gb381)); have n6_ := Aside0.mk ((by rw [hg]; exact (below_size hb_) : w.heap.size ≤ gb381)); have n7_ := Aside0.mk ((by rw [hg]; exact Nat.ne_of_lt (bl BK359.out) : gb359 ≠ gb381)); have n8_ := Aside0.mk ((by rw [hg]; exact Nat.ne_of_gt (bl BK359.out) : gb381 ≠ gb359)); have n9_ := Aside0.mk ((by rw [hg]; exact Nat.ne_of_lt (bl BK369.out) : gb369 ≠ gb381)); have n10_ := Aside0.mk ((by rw [hg]; exact Nat.ne_of_gt (bl BK369.out) : gb381 ≠ gb369)); have n11_ := Aside0.mk ((by rw [hg]; exact Nat.ne_of_lt (bl BK375.out) : gb375 ≠ gb381)); have n12_ := Aside0.mk ((by rw [hg]; exact Nat.ne_of_gt (bl BK375.out) : gb381 ≠ gb375)); clear BK359; clear BK369; clear BK375; clear HB; have BK359 := n0_; have BK369 := n1_; have BK375 := n2_; have HB := n3_; have BK381 := n4_; have GW381 := n5_; have GE381 := n6_; have NB359_381 := n7_; have NB381_359 := n8_; have NB369_381 := n9_; have NB381_369 := n10_; have NB375_381 := n11_; have NB381_375 := n12_; clear n0_ n1_ n2_ n3_ n4_ n5_ n6_ n7_ n8_ n9_ n10_ n11_ n12_; clear hb hbox hg; have hnb26 := NB381_359.out; have hnc26 := NB359_381.out; have hnb27 := NB381_369.out; have hnc27 := NB369_381.out; have hnb28 := NB381_375.out; have hnc28 := NB375_381.out; obtain ⟨hcz29_0, hcz29_1, hcz29_2, hcz29_3⟩ := cs4 BK381.out; obtain ⟨hfz29_0, hfz29_1, hfz29_2, hfz29_3⟩ := fs4 BK381.out; obtain ⟨hcz30_0, hcz30_1, hcz30_2, hcz30_3⟩ := cs4 BK369.out; obtain ⟨hfz30_0, hfz30_1, hfz30_2, hfz30_3⟩ := fs4 BK369.out) | ((with_reducible refine gate_callee (f := 20) rfl ?_); refine goesL_ (some 65) rfl rfl Try.func20 (by kernel_rfl) rfl #[.agg #[.int .i64 t364, .int .i64 t365, .int .i64 t366, .int .i64 t367], .int .i64 (wrap64 ((wrap64 (t367 + (wrap64 (a1)))) + (wrap64 (a2)))), .int .i64 (Int.tmod (wrap64 (a3)) 500001)] rfl sl_ ?_; (with_reducible refine (sample_Grow.calls k t364 t365 t366 t367 (wrap64 ((wrap64 (t367 + (wrap64 (a1)))) + (wrap64 (a2)))) (Int.tmod (wrap64 (a3)) 500001) t382 t383 t384 t385 t386 _ A9.out).mono ?_); rintro e w31 ⟨rfl, hb⟩; refine ⟨_, rfl, ?_⟩; have n0_ := Aside0.mk (blk_below (g := gb359) (o := .cells #[.int .u32 a0_0, .int .u32 a0_1, .int .u32 a0_2, .int .i32 a0_3, .int .i32 a0_4, .int .i32 a0_5] 39 (0, 0)) (bf BK359.out NB359_381.out) hb); have n1_ := Aside0.mk (blk_below (g := gb369) (o := .cells #[.int .i64 t364, .int .i64 t365, .int .i64 t366, .int .i64 t367] 25 (0, 0)) (bf BK369.out NB369_381.out) hb); have n2_ := Aside0.mk (blk_below (g := gb375) (o := .cells #[.int .i64 t370, .int .i64 t371, .int .i64 t372, .int .i64 t373] 25 (0, 0)) (bf BK375.out NB375_381.out) hb); have n3_ := Aside0.mk (blk_below (g := gb381) (o := .cells #[.int .i64 t376, .int .i64 t377, .int .i64 t378, .int .i64 t379] 25 (0, 0)) (by (with_reducible repeat (first | refine blk_drewN ?_ _ | refine blk_drew ?_ | refine blk_alloc ?_ _)); refine blk_put (cs := #[.int .i64 t376, .int .i64 t377, .int .i64 t378, .int .i64 0]) ?_ 3 _ rfl; (with_reducible repeat (first | refine blk_drewN ?_ _ | refine blk_drew ?_ | refine blk_alloc ?_ _)); refine blk_put (cs := #[.int .i64 t376, .int .i64 t377, .int .i64 0, .int .i64 0]) ?_ 2 _ rfl; (with_reducible repeat (first | refine blk_drewN ?_ _ | refine blk_drew ?_ | refine blk_alloc ?_ _)); refine blk_put (cs := #[.int .i64 t376, .int .i64 0, .int .i64 0, .int .i64 0]) ?_ 1 _ rfl; (with_reducible repeat (first | refine blk_drewN ?_ _ | refine blk_drew ?_ | refine blk_alloc ?_ _)); refine blk_put (cs := #[.int .i64 0, .int .i64 0, .int .i64 0, .int .i64 0]) ?_ 0 _ rfl; (with_reducible repeat (first | refine blk_drewN ?_ _ | refine blk_drew ?_ | refine blk_alloc ?_ _)); exact BK381.out) hb); have n4_ := Aside0.mk (below_step hb_ hb); clear BK359; clear BK369; clear BK375; clear BK381; clear HB; have BK359 := n0_; have BK369 := n1_; have BK375 := n2_; have BK381 := n3_; have HB := n4_; clear n0_ n1_ n2_ n3_ n4_; (try clear hb); (try clear hb2); (try clear hk); (try clear hi)) | ((with_reducible refine gate_dst (N := 16) rfl ?_); refine box_event ?hg (N := 16) ?hd (cs := #[.int .i64 0, .int .i64 0, .int .i64 0, .int .i64 0]) (t := 25) ?hr ?_; (case hd => rfl); (case hg => rfl); (case hr => first | (go_simp; done) | (go_simp; rfl)); intro gb387 hg w32 hbox hb; have n0_ := Aside0.mk (bb BK359.out hb); have n1_ := Aside0.mk (bb BK369.out hb); have n2_ := Aside0.mk (bb BK375.out hb); have n3_ := Aside0.mk (bb BK381.out hb); have n4_ := Aside0.mk (below_step hb_ hb); have n5_ := Aside0.mk (hbox); have n6_ := Aside0.mk ((by rw [hg]; exact (below_size hb_) : w.heap.size ≤ gb387)); have n7_ := Aside0.mk ((by rw [hg]; exact (below_size hb_) : w.heap.size ≤ gb387)); have n8_ := Aside0.mk ((by rw [hg]; exact Nat.ne_of_lt (bl BK359.out) : gb359 ≠ gb387)); have n9_ := Aside0.mk ((by rw [hg]; exact Nat.ne_of_gt (bl BK359.out) : gb387 ≠ gb359)); have n10_ := Aside0.mk ((by rw [hg]; exact Nat.ne_of_lt (bl BK369.out) : gb369 ≠ gb387)); have n11_ := Aside0.mk ((by rw [hg]; exact Nat.ne_of_gt (bl BK369.out) : gb387 ≠ gb369)); have n12_ := Aside0.mk ((by rw [hg]; exact Nat.ne_of_lt (bl BK375.out) : gb375 ≠ gb387)); have n13_ := Aside0.mk ((by rw [hg]; exact Nat.ne_of_gt (bl BK375.out) : gb387 ≠ gb375)); have n14_ := Aside0.mk ((by rw [hg]; exact Nat.ne_of_lt (bl BK381.out) : gb381 ≠ gb387)); have n15_ := Aside0.mk ((by rw [hg]; exact Nat.ne_of_gt (bl BK381.out) : gb387 ≠ gb381)); clear BK359; clear BK369; clear BK375; clear BK381; clear HB; have BK359 := n0_; have BK369 := n1_; have BK375 := n2_; have BK381 := n3_; have HB := n4_; have BK387 := n5_; have GW387 := n6_; have GE387 := n7_; have NB359_387 := n8_; have NB387_359 := n9_; have NB369_387 := n10_; have NB387_369 := n11_; have NB375_387 := n12_; have NB387_375 := n13_; have NB381_387 := n14_; have NB387_381 := n15_; clear n0_ n1_ n2_ n3_ n4_ n5_ n6_ n7_ n8_ n9_ n10_ n11_ n12_ n13_ n14_ n15_; clear hb hbox hg; have hnb33 := NB387_359.out; have hnc33 := NB359_387.out; have hnb34 := NB387_369.out; have hnc34 := NB369_387.out; have hnb35 := NB387_375.out; have hnc35 := NB375_387.out; have hnb36 := NB387_381.out; have hnc36 := NB381_387.out; obtain ⟨hcz37_0, hcz37_1, hcz37_2, hcz37_3⟩ := cs4 BK387.out; obtain ⟨hfz37_0, hfz37_1, hfz37_2, hfz37_3⟩ := fs4 BK387.out; obtain ⟨hcz38_0, hcz38_1, hcz38_2, hcz38_3⟩ := cs4 BK369.out; obtain ⟨hfz38_0, hfz38_1, hfz38_2, hfz38_3⟩ := fs4 BK369.out) | ((with_reducible refine gate_callee (f := 20) rfl ?_); refine goesL_ (some 73) rfl rfl Try.func20 (by kernel_rfl) rfl #[.agg #[.int .i64 t364, .int .i64 t365, .int .i64 t366, .int .i64 t367], .int .i64 t367, .int .i64 (Int.tmod (wrap64 (a3)) 500001)] rfl sl_ ?_; (with_reducible refine (sample_Grow.calls k t364 t365 t366 t367 t367 (Int.tmod (wrap64 (a3)) 500001) t388 t389 t390 t391 t392 _ A10.out).mono ?_); rintro e w39 ⟨rfl, hb⟩; refine ⟨_, rfl, ?_⟩; have n0_ := Aside0.mk (blk_below (g := gb359) (o := .cells #[.int .u32 a0_0, .int .u32 a0_1, .int .u32 a0_2, .int .i32 a0_3, .int .i32 a0_4, .int .i32 a0_5] 39 (0, 0)) (bf BK359.out NB359_387.out) hb); have n1_ := Aside0.mk (blk_below (g := gb369) (o := .cells #[.int .i64 t364, .int .i64 t365, .int .i64 t366, .int .i64 t367] 25 (0, 0)) (bf BK369.out NB369_387.out) hb); have n2_ := Aside0.mk (blk_below (g := gb375) (o := .cells #[.int .i64 t370, .int .i64 t371, .int .i64 t372, .int .i64 t373] 25 (0, 0)) (bf BK375.out NB375_387.out) hb); have n3_ := Aside0.mk (blk_below (g := gb381) (o := .cells #[.int .i64 t376, .int .i64 t377, .int .i64 t378, .int .i64 t379] 25 (0, 0)) (bf BK381.out NB381_387.out) hb); have n4_ := Aside0.mk (blk_below (g := gb387) (o := .cells #[.int .i64 t382, .int .i64 t383, .int .i64 t384, .int .i64 t385] 25 (0, 0)) (by (with_reducible repeat (first | refine blk_drewN ?_ _ | refine blk_drew ?_ | refine blk_alloc ?_ _)); refine blk_put (cs := #[.int .i64 t382, .int .i64 t383, .int .i64 t384, .int .i64 0]) ?_ 3 _ rfl; (with_reducible repeat (first | refine blk_drewN ?_ _ | refine blk_drew ?_ | refine blk_alloc ?_ _)); refine blk_put (cs := #[.int .i64 t382, .int .i64 t383, .int .i64 0, .int .i64 0]) ?_ 2 _ rfl; (with_reducible repeat (first | refine blk_drewN ?_ _ | refine blk_drew ?_ | refine blk_alloc ?_ _)); refine blk_put (cs := #[.int .i64 t382, .int .i64 0, .int .i64 0, .int .i64 0]) ?_ 1 _ rfl; (with_reducible repeat (first | refine blk_drewN ?_ _ | refine blk_drew ?_ | refine blk_alloc ?_ _)); refine blk_put (cs := #[.int .i64 0, .int .i64 0, .int .i64 0, .int .i64 0]) ?_ 0 _ rfl; (with_reducible repeat (first | refine blk_drewN ?_ _ | refine blk_drew ?_ | refine blk_alloc ?_ _)); exact BK387.out) hb); have n5_ := Aside0.mk (below_step hb_ hb); clear BK359; clear BK369; clear BK375; clear BK381; clear BK387; clear HB; have BK359 := n0_; have BK369 := n1_; have BK375 := n2_; have BK381 := n3_; have BK387 := n4_; have HB := n5_; clear n0_ n1_ n2_ n3_ n4_ n5_; (try clear hb); (try clear hb2); (try clear hk); (try clear hi)) | ((with_reducible refine gate_dst (N := 18) rfl ?_); refine box_event ?hg (N := 18) ?hd (cs := #[.int .i64 0, .int .i64 0, .int .i64 0, .int .i64 0]) (t := 25) ?hr ?_; (case hd => rfl); (case hg => rfl); (case hr => first | (go_simp; done) | (go_simp; rfl)); intro gb393 hg w40 hbox hb; have n0_ := Aside0.mk (bb BK359.out hb); have n1_ := Aside0.mk (bb BK369.out hb); have n2_ := Aside0.mk (bb BK375.out hb); have n3_ := Aside0.mk (bb BK381.out hb); have n4_ := Aside0.mk (bb BK387.out hb); have n5_ := Aside0.mk (below_step hb_ hb); have n6_ := Aside0.mk (hbox); have n7_ := Aside0.mk ((by rw [hg]; exact (below_size hb_) : w.heap.size ≤ gb393)); have n8_ := Aside0.mk ((by rw [hg]; exact (below_size hb_) : w.heap.size ≤ gb393)); have n9_ := Aside0.mk ((by rw [hg]; exact Nat.ne_of_lt (bl BK359.out) : gb359 ≠ gb393)); have n10_ := Aside0.mk ((by rw [hg]; exact Nat.ne_of_gt (bl BK359.out) : gb393 ≠ gb359)); have n11_ := Aside0.mk ((by rw [hg]; exact Nat.ne_of_lt (bl BK369.out) : gb369 ≠ gb393)); have n12_ := Aside0.mk ((by rw [hg]; exact Nat.ne_of_gt (bl BK369.out) : gb393 ≠ gb369)); have n13_ := Aside0.mk ((by rw [hg]; exact Nat.ne_of_lt (bl BK375.out) : gb375 ≠ gb393)); have n14_ := Aside0.mk ((by rw [hg]; exact Nat.ne_of_gt (bl BK375.out) : gb393 ≠ gb375)); have n15_ := Aside0.mk ((by rw [hg]; exact Nat.ne_of_lt (bl BK381.out) : gb381 ≠ gb393)); have n16_ := Aside0.mk ((by rw [hg]; exact Nat.ne_of_gt (bl BK381.out) : gb393 ≠ gb381)); have n17_ := Aside0.mk ((by rw [hg]; exact Nat.ne_of_lt (bl BK387.out) : gb387 ≠ gb393)); have n18_ := Aside0.mk ((by rw [hg]; exact Nat.ne_of_gt (bl BK387.out) : gb393 ≠ gb387)); clear BK359; clear BK369; clear BK375; clear BK381; clear BK387; clear HB; have BK359 := n0_; have BK369 := n1_; have BK375 := n2_; have BK381 := n3_; have BK387 := n4_; have HB := n5_; have BK393 := n6_; have GW393 := n7_; have GE393 := n8_; have NB359_393 := n9_; have NB393_359 := n10_; have NB369_393 := n11_; have NB393_369 := n12_; have NB375_393 := n13_; have NB393_375 := n14_; have NB381_393 := n15_; have NB393_381 := n16_; have NB387_393 := n17_; have NB393_387 := n18_; clear n0_ n1_ n2_ n3_ n4_ n5_ n6_ n7_ n8_ n9_ n10_ n11_ n12_ n13_ n14_ n15_ n16_ n17_ n18_; clear hb hbox hg; have hnb41 := NB393_359.out; have hnc41 := NB359_393.out; have hnb42 := NB393_369.out; have hnc42 := NB369_393.out; have hnb43 := NB393_375.out; have hnc43 := NB375_393.out; have hnb44 := NB393_381.out; have hnc44 := NB381_393.out; have hnb45 := NB393_387.out; have hnc45 := NB387_393.out; obtain ⟨hcz46_0, hcz46_1, hcz46_2, hcz46_3⟩ := cs4 BK393.out; obtain ⟨hfz46_0, hfz46_1, hfz46_2, hfz46_3⟩ := fs4 BK393.out))
  (try simp only [Act.put, z1, z2, z3])
  go_cut [98] (fun v98 wc => ∃ (kq : Nat) (x98_10 : Bool), v98 = .bool x98_10 ∧ Aside0 (timesynclaw21_SampleWider.j0 kq x98_10 t364 t365 t366 t367 t376 t377 t378 t379 t382 t383 t384 t385 = some r) ∧ Aside0 (kq ≤ k) ∧ Aside0 (wc.heap[gb359]? = some (.cells #[.int .u32 a0_0, .int .u32 a0_1, .int .u32 a0_2, .int .i32 a0_3, .int .i32 a0_4, .int .i32 a0_5] 39 (0, 0))) ∧ Aside0 (wc.heap[gb369]? = some (.cells #[.int .i64 t364, .int .i64 t365, .int .i64 t366, .int .i64 t367] 25 (0, 0))) ∧ Aside0 (wc.heap[gb375]? = some (.cells #[.int .i64 t370, .int .i64 t371, .int .i64 t372, .int .i64 t373] 25 (0, 0))) ∧ Aside0 (wc.heap[gb381]? = some (.cells #[.int .i64 t376, .int .i64 t377, .int .i64 t378, .int .i64 t379] 25 (0, 0))) ∧ Aside0 (wc.heap[gb387]? = some (.cells #[.int .i64 t382, .int .i64 t383, .int .i64 t384, .int .i64 t385] 25 (0, 0))) ∧ Aside0 (wc.heap[gb393]? = some (.cells #[.int .i64 t388, .int .i64 t389, .int .i64 t390, .int .i64 t391] 25 (0, 0))) ∧ Aside0 (Below w.heap.size w wc))
  case first =>
    have H := HC11.out
    clear HC11
    by_cases c47 : t368 = 0
    · rw [if_pos c47] at H
      have c47b0 : (t368 == 0) = true := beq_iff_eq.mpr c47
      have c47b1 : (t368 != 0) = false := bne_eq_false_iff_eq.mpr c47
      clear c47
      (first | rw [c47b0] | (simp only [i64_w, i32_w]; rw [c47b0]) | skip)
      by_cases c48 : t374 = 0
      · rw [if_pos c48] at H
        have c48b0 : (t374 == 0) = true := beq_iff_eq.mpr c48
        have c48b1 : (t374 != 0) = false := bne_eq_false_iff_eq.mpr c48
        clear c48
        by_cases c49 : t380 = 0
        · rw [if_pos c49] at H
          have c49b0 : (t380 == 0) = true := beq_iff_eq.mpr c49
          have c49b1 : (t380 != 0) = false := bne_eq_false_iff_eq.mpr c49
          clear c49
          by_cases c50 : t386 = 0
          · rw [if_pos c50] at H
            have c50b0 : (t386 == 0) = true := beq_iff_eq.mpr c50
            have c50b1 : (t386 != 0) = false := bne_eq_false_iff_eq.mpr c50
            clear c50
            by_cases c51 : t392 = 0
            · rw [if_pos c51] at H
              have c51b0 : (t392 == 0) = true := beq_iff_eq.mpr c51
              have c51b1 : (t392 != 0) = false := bne_eq_false_iff_eq.mpr c51
              clear c51
              have H' := Aside0.mk H
              clear H
              have hnb52 := NB393_359.out
              have hnc52 := NB359_393.out
              have hnb53 := NB393_369.out
              have hnc53 := NB369_393.out
              have hnb54 := NB393_375.out
              have hnc54 := NB375_393.out
              have hnb55 := NB393_381.out
              have hnc55 := NB381_393.out
              have hnb56 := NB393_387.out
              have hnc56 := NB387_393.out
              obtain ⟨hcz57_0, hcz57_1, hcz57_2, hcz57_3⟩ := cs4 BK393.out
              obtain ⟨hfz57_0, hfz57_1, hfz57_2, hfz57_3⟩ := fs4 BK393.out
              have hnb58 := NB369_359.out
              have hnc58 := NB359_369.out
              have hnb59 := NB369_375.out
              have hnc59 := NB375_369.out
              have hnb60 := NB369_381.out
              have hnc60 := NB381_369.out
              have hnb61 := NB369_387.out
              have hnc61 := NB387_369.out
              obtain ⟨hcz62_0, hcz62_1, hcz62_2, hcz62_3⟩ := cs4 BK369.out
              obtain ⟨hfz62_0, hfz62_1, hfz62_2, hfz62_3⟩ := fs4 BK369.out
              go_wp2
              go_meet
              case rel => exact ⟨_, ((!(t388 == t364) || (!(t389 == t365) || (!(t390 == t366) || (!(t391 == t367)))))), (by first | rfl | (simp; done) | (simp [*]; done)), H', ⟨by first | omega | exact Nat.le_refl _⟩, ⟨bf BK359.out NB359_393.out⟩, ⟨bf BK369.out NB369_393.out⟩, ⟨bf BK375.out NB375_393.out⟩, ⟨bf BK381.out NB381_393.out⟩, ⟨bf BK387.out NB387_393.out⟩, ⟨by (with_reducible repeat (first | refine blk_drewN ?_ _ | refine blk_drew ?_ | refine blk_alloc ?_ _)); refine blk_put (cs := #[.int .i64 t388, .int .i64 t389, .int .i64 t390, .int .i64 0]) ?_ 3 _ rfl; (with_reducible repeat (first | refine blk_drewN ?_ _ | refine blk_drew ?_ | refine blk_alloc ?_ _)); refine blk_put (cs := #[.int .i64 t388, .int .i64 t389, .int .i64 0, .int .i64 0]) ?_ 2 _ rfl; (with_reducible repeat (first | refine blk_drewN ?_ _ | refine blk_drew ?_ | refine blk_alloc ?_ _)); refine blk_put (cs := #[.int .i64 t388, .int .i64 0, .int .i64 0, .int .i64 0]) ?_ 1 _ rfl; (with_reducible repeat (first | refine blk_drewN ?_ _ | refine blk_drew ?_ | refine blk_alloc ?_ _)); refine blk_put (cs := #[.int .i64 0, .int .i64 0, .int .i64 0, .int .i64 0]) ?_ 0 _ rfl; (with_reducible repeat (first | refine blk_drewN ?_ _ | refine blk_drew ?_ | refine blk_alloc ?_ _)); exact BK393.out⟩, ⟨hb_⟩⟩
            · rw [if_neg c51] at H
              have c51b0 : (t392 == 0) = false := beq_eq_false_iff_ne.mpr c51
              have c51b1 : (t392 != 0) = true := bne_iff_ne.mpr c51
              have H' := Aside0.mk H
              clear H
              go_wp2
              go_meet
              case rel => exact ⟨_, (true), (by first | rfl | (simp; done) | (simp [*]; done)), H', ⟨by first | omega | exact Nat.le_refl _⟩, ⟨bf BK359.out NB359_393.out⟩, ⟨bf BK369.out NB369_393.out⟩, ⟨bf BK375.out NB375_393.out⟩, ⟨bf BK381.out NB381_393.out⟩, ⟨bf BK387.out NB387_393.out⟩, ⟨by (with_reducible repeat (first | refine blk_drewN ?_ _ | refine blk_drew ?_ | refine blk_alloc ?_ _)); refine blk_put (cs := #[.int .i64 t388, .int .i64 t389, .int .i64 t390, .int .i64 0]) ?_ 3 _ rfl; (with_reducible repeat (first | refine blk_drewN ?_ _ | refine blk_drew ?_ | refine blk_alloc ?_ _)); refine blk_put (cs := #[.int .i64 t388, .int .i64 t389, .int .i64 0, .int .i64 0]) ?_ 2 _ rfl; (with_reducible repeat (first | refine blk_drewN ?_ _ | refine blk_drew ?_ | refine blk_alloc ?_ _)); refine blk_put (cs := #[.int .i64 t388, .int .i64 0, .int .i64 0, .int .i64 0]) ?_ 1 _ rfl; (with_reducible repeat (first | refine blk_drewN ?_ _ | refine blk_drew ?_ | refine blk_alloc ?_ _)); refine blk_put (cs := #[.int .i64 0, .int .i64 0, .int .i64 0, .int .i64 0]) ?_ 0 _ rfl; (with_reducible repeat (first | refine blk_drewN ?_ _ | refine blk_drew ?_ | refine blk_alloc ?_ _)); exact BK393.out⟩, ⟨hb_⟩⟩
          · rw [if_neg c50] at H
            have c50b0 : (t386 == 0) = false := beq_eq_false_iff_ne.mpr c50
            have c50b1 : (t386 != 0) = true := bne_iff_ne.mpr c50
            have H' := Aside0.mk H
            clear H
            go_wp2
            go_meet
            case rel => exact ⟨_, (true), (by first | rfl | (simp; done) | (simp [*]; done)), H', ⟨by first | omega | exact Nat.le_refl _⟩, ⟨bf BK359.out NB359_393.out⟩, ⟨bf BK369.out NB369_393.out⟩, ⟨bf BK375.out NB375_393.out⟩, ⟨bf BK381.out NB381_393.out⟩, ⟨bf BK387.out NB387_393.out⟩, ⟨by (with_reducible repeat (first | refine blk_drewN ?_ _ | refine blk_drew ?_ | refine blk_alloc ?_ _)); refine blk_put (cs := #[.int .i64 t388, .int .i64 t389, .int .i64 t390, .int .i64 0]) ?_ 3 _ rfl; (with_reducible repeat (first | refine blk_drewN ?_ _ | refine blk_drew ?_ | refine blk_alloc ?_ _)); refine blk_put (cs := #[.int .i64 t388, .int .i64 t389, .int .i64 0, .int .i64 0]) ?_ 2 _ rfl; (with_reducible repeat (first | refine blk_drewN ?_ _ | refine blk_drew ?_ | refine blk_alloc ?_ _)); refine blk_put (cs := #[.int .i64 t388, .int .i64 0, .int .i64 0, .int .i64 0]) ?_ 1 _ rfl; (with_reducible repeat (first | refine blk_drewN ?_ _ | refine blk_drew ?_ | refine blk_alloc ?_ _)); refine blk_put (cs := #[.int .i64 0, .int .i64 0, .int .i64 0, .int .i64 0]) ?_ 0 _ rfl; (with_reducible repeat (first | refine blk_drewN ?_ _ | refine blk_drew ?_ | refine blk_alloc ?_ _)); exact BK393.out⟩, ⟨hb_⟩⟩
        · rw [if_neg c49] at H
          have c49b0 : (t380 == 0) = false := beq_eq_false_iff_ne.mpr c49
          have c49b1 : (t380 != 0) = true := bne_iff_ne.mpr c49
          have H' := Aside0.mk H
          clear H
          go_wp2
          go_meet
          case rel => exact ⟨_, (true), (by first | rfl | (simp; done) | (simp [*]; done)), H', ⟨by first | omega | exact Nat.le_refl _⟩, ⟨bf BK359.out NB359_393.out⟩, ⟨bf BK369.out NB369_393.out⟩, ⟨bf BK375.out NB375_393.out⟩, ⟨bf BK381.out NB381_393.out⟩, ⟨bf BK387.out NB387_393.out⟩, ⟨by (with_reducible repeat (first | refine blk_drewN ?_ _ | refine blk_drew ?_ | refine blk_alloc ?_ _)); refine blk_put (cs := #[.int .i64 t388, .int .i64 t389, .int .i64 t390, .int .i64 0]) ?_ 3 _ rfl; (with_reducible repeat (first | refine blk_drewN ?_ _ | refine blk_drew ?_ | refine blk_alloc ?_ _)); refine blk_put (cs := #[.int .i64 t388, .int .i64 t389, .int .i64 0, .int .i64 0]) ?_ 2 _ rfl; (with_reducible repeat (first | refine blk_drewN ?_ _ | refine blk_drew ?_ | refine blk_alloc ?_ _)); refine blk_put (cs := #[.int .i64 t388, .int .i64 0, .int .i64 0, .int .i64 0]) ?_ 1 _ rfl; (with_reducible repeat (first | refine blk_drewN ?_ _ | refine blk_drew ?_ | refine blk_alloc ?_ _)); refine blk_put (cs := #[.int .i64 0, .int .i64 0, .int .i64 0, .int .i64 0]) ?_ 0 _ rfl; (with_reducible repeat (first | refine blk_drewN ?_ _ | refine blk_drew ?_ | refine blk_alloc ?_ _)); exact BK393.out⟩, ⟨hb_⟩⟩
      · rw [if_neg c48] at H
        have c48b0 : (t374 == 0) = false := beq_eq_false_iff_ne.mpr c48
        have c48b1 : (t374 != 0) = true := bne_iff_ne.mpr c48
        have H' := Aside0.mk H
        clear H
        go_wp2
        go_meet
        case rel => exact ⟨_, (true), (by first | rfl | (simp; done) | (simp [*]; done)), H', ⟨by first | omega | exact Nat.le_refl _⟩, ⟨bf BK359.out NB359_393.out⟩, ⟨bf BK369.out NB369_393.out⟩, ⟨bf BK375.out NB375_393.out⟩, ⟨bf BK381.out NB381_393.out⟩, ⟨bf BK387.out NB387_393.out⟩, ⟨by (with_reducible repeat (first | refine blk_drewN ?_ _ | refine blk_drew ?_ | refine blk_alloc ?_ _)); refine blk_put (cs := #[.int .i64 t388, .int .i64 t389, .int .i64 t390, .int .i64 0]) ?_ 3 _ rfl; (with_reducible repeat (first | refine blk_drewN ?_ _ | refine blk_drew ?_ | refine blk_alloc ?_ _)); refine blk_put (cs := #[.int .i64 t388, .int .i64 t389, .int .i64 0, .int .i64 0]) ?_ 2 _ rfl; (with_reducible repeat (first | refine blk_drewN ?_ _ | refine blk_drew ?_ | refine blk_alloc ?_ _)); refine blk_put (cs := #[.int .i64 t388, .int .i64 0, .int .i64 0, .int .i64 0]) ?_ 1 _ rfl; (with_reducible repeat (first | refine blk_drewN ?_ _ | refine blk_drew ?_ | refine blk_alloc ?_ _)); refine blk_put (cs := #[.int .i64 0, .int .i64 0, .int .i64 0, .int .i64 0]) ?_ 0 _ rfl; (with_reducible repeat (first | refine blk_drewN ?_ _ | refine blk_drew ?_ | refine blk_alloc ?_ _)); exact BK393.out⟩, ⟨hb_⟩⟩
    · rw [if_neg c47] at H
      have c47b0 : (t368 == 0) = false := beq_eq_false_iff_ne.mpr c47
      have c47b1 : (t368 != 0) = true := bne_iff_ne.mpr c47
      (first | rw [c47b0] | (simp only [i64_w, i32_w]; rw [c47b0]) | skip)
      have H' := Aside0.mk H
      clear H
      go_wp2
      go_meet
      case rel => exact ⟨_, (true), (by first | rfl | (simp; done) | (simp [*]; done)), H', ⟨by first | omega | exact Nat.le_refl _⟩, ⟨bf BK359.out NB359_393.out⟩, ⟨bf BK369.out NB369_393.out⟩, ⟨bf BK375.out NB375_393.out⟩, ⟨bf BK381.out NB381_393.out⟩, ⟨bf BK387.out NB387_393.out⟩, ⟨by (with_reducible repeat (first | refine blk_drewN ?_ _ | refine blk_drew ?_ | refine blk_alloc ?_ _)); refine blk_put (cs := #[.int .i64 t388, .int .i64 t389, .int .i64 t390, .int .i64 0]) ?_ 3 _ rfl; (with_reducible repeat (first | refine blk_drewN ?_ _ | refine blk_drew ?_ | refine blk_alloc ?_ _)); refine blk_put (cs := #[.int .i64 t388, .int .i64 t389, .int .i64 0, .int .i64 0]) ?_ 2 _ rfl; (with_reducible repeat (first | refine blk_drewN ?_ _ | refine blk_drew ?_ | refine blk_alloc ?_ _)); refine blk_put (cs := #[.int .i64 t388, .int .i64 0, .int .i64 0, .int .i64 0]) ?_ 1 _ rfl; (with_reducible repeat (first | refine blk_drewN ?_ _ | refine blk_drew ?_ | refine blk_alloc ?_ _)); refine blk_put (cs := #[.int .i64 0, .int .i64 0, .int .i64 0, .int .i64 0]) ?_ 0 _ rfl; (with_reducible repeat (first | refine blk_drewN ?_ _ | refine blk_drew ?_ | refine blk_alloc ?_ _)); exact BK393.out⟩, ⟨hb_⟩⟩
  case rest =>
    clear HC11
    try clear c1
    try clear c2
    try clear p2
    try clear c3
    try clear c4
    try clear c5
    try clear c6
    try clear p6
    try clear c9
    try clear c10
    try clear c17
    try clear c19
    try clear c20
    try clear c21
    try clear c22
    try clear c26
    try clear c27
    try clear c28
    try clear c33
    try clear c34
    try clear c35
    try clear c36
    try clear c41
    try clear c42
    try clear c43
    try clear c44
    try clear c45
    try clear c47
    try clear c47b0
    try clear c47b1
    try clear c48
    try clear c48b0
    try clear c48b1
    try clear c49
    try clear c49b0
    try clear c49b1
    try clear c50
    try clear c50b0
    try clear c50b1
    try clear c51
    try clear c51b0
    try clear c51b1
    try clear c52
    try clear c53
    try clear c54
    try clear c55
    try clear c56
    try clear c58
    try clear c59
    try clear c60
    try clear c61
    try clear hcz13_0
    try clear hcz13_1
    try clear hcz13_2
    try clear hcz13_3
    try clear hcz13_4
    try clear hcz13_5
    try clear hcz18_0
    try clear hcz18_1
    try clear hcz18_2
    try clear hcz18_3
    try clear hcz23_0
    try clear hcz23_1
    try clear hcz23_2
    try clear hcz23_3
    try clear hcz29_0
    try clear hcz29_1
    try clear hcz29_2
    try clear hcz29_3
    try clear hcz30_0
    try clear hcz30_1
    try clear hcz30_2
    try clear hcz30_3
    try clear hcz37_0
    try clear hcz37_1
    try clear hcz37_2
    try clear hcz37_3
    try clear hcz38_0
    try clear hcz38_1
    try clear hcz38_2
    try clear hcz38_3
    try clear hcz46_0
    try clear hcz46_1
    try clear hcz46_2
    try clear hcz46_3
    try clear hcz57_0
    try clear hcz57_1
    try clear hcz57_2
    try clear hcz57_3
    try clear hcz62_0
    try clear hcz62_1
    try clear hcz62_2
    try clear hcz62_3
    try clear hfz13_0
    try clear hfz13_1
    try clear hfz13_2
    try clear hfz13_3
    try clear hfz13_4
    try clear hfz13_5
    try clear hfz18_0
    try clear hfz18_1
    try clear hfz18_2
    try clear hfz18_3
    try clear hfz23_0
    try clear hfz23_1
    try clear hfz23_2
    try clear hfz23_3
    try clear hfz29_0
    try clear hfz29_1
    try clear hfz29_2
    try clear hfz29_3
    try clear hfz30_0
    try clear hfz30_1
    try clear hfz30_2
    try clear hfz30_3
    try clear hfz37_0
    try clear hfz37_1
    try clear hfz37_2
    try clear hfz37_3
    try clear hfz38_0
    try clear hfz38_1
    try clear hfz38_2
    try clear hfz38_3
    try clear hfz46_0
    try clear hfz46_1
    try clear hfz46_2
    try clear hfz46_3
    try clear hfz57_0
    try clear hfz57_1
    try clear hfz57_2
    try clear hfz57_3
    try clear hfz62_0
    try clear hfz62_1
    try clear hfz62_2
    try clear hfz62_3
    obtain ⟨kq, x98_10, rfl, HA, HJ10, BK359, BK369, BK375, BK381, BK387, BK393, HB⟩ := hcut
    cases kq with
    | zero => exact absurd HA.out (by simp [timesynclaw21_SampleWider.j0])
    | succ kj10 =>
      have H := HA.out
      clear HA
      simp only [timesynclaw21_SampleWider.j0] at H
      by_cases c63 : x98_10 = true
      · subst c63
        have H1 : (some false) = some r := by rw [if_pos rfl] at H; exact H
        clear H
        have H := H1
        clear H1
        obtain rfl := Option.some.inj H
        go_wp2
        go_ret
        exact ⟨by first | rfl | (simp [errW_none, errW_some] <;> rfl) | (simp [*, errW_none, errW_some] <;> rfl), hb_⟩
      · replace c63 := Bool.eq_false_iff.mpr c63
        subst c63
        have H1 : ((sample_Bounds.f t364 t365 t366 t367).bind fun bt394 => ((sample_Bounds.f t376 t377 t378 t379).bind fun bt396 => (if bt396.1 > bt394.1 then (timesynclaw21_SampleWider.j1 kj10 true t376 t377 t378 t379 t382 t383 t384 t385) else (if bt396.2 < bt394.2 then (timesynclaw21_SampleWider.j1 kj10 true t376 t377 t378 t379 t382 t383 t384 t385) else (if t376 = t364 then (if t377 = t365 then (timesynclaw21_SampleWider.j1 kj10 (t379 != t385) t376 t377 t378 t379 t382 t383 t384 t385) else (timesynclaw21_SampleWider.j1 kj10 true t376 t377 t378 t379 t382 t383 t384 t385)) else (timesynclaw21_SampleWider.j1 kj10 true t376 t377 t378 t379 t382 t383 t384 t385)))))) = some r := by rw [if_neg (show ¬ (false = true) by decide)] at H; exact H
        clear H
        have H := H1
        clear H1
        replace H := Option.bind_eq_some_iff.mp H
        obtain ⟨⟨t394, t395⟩, A640, H⟩ := H
        replace H : ((sample_Bounds.f t376 t377 t378 t379).bind fun bt396 => (if bt396.1 > t394 then (timesynclaw21_SampleWider.j1 kj10 true t376 t377 t378 t379 t382 t383 t384 t385) else (if bt396.2 < t395 then (timesynclaw21_SampleWider.j1 kj10 true t376 t377 t378 t379 t382 t383 t384 t385) else (if t376 = t364 then (if t377 = t365 then (timesynclaw21_SampleWider.j1 kj10 (t379 != t385) t376 t377 t378 t379 t382 t383 t384 t385) else (timesynclaw21_SampleWider.j1 kj10 true t376 t377 t378 t379 t382 t383 t384 t385)) else (timesynclaw21_SampleWider.j1 kj10 true t376 t377 t378 t379 t382 t383 t384 t385))))) = some r := H
        have A64 := Aside0.mk A640
        clear A640
        replace H := Option.bind_eq_some_iff.mp H
        obtain ⟨⟨t396, t397⟩, A650, H⟩ := H
        replace H : (if t396 > t394 then (timesynclaw21_SampleWider.j1 kj10 true t376 t377 t378 t379 t382 t383 t384 t385) else (if t397 < t395 then (timesynclaw21_SampleWider.j1 kj10 true t376 t377 t378 t379 t382 t383 t384 t385) else (if t376 = t364 then (if t377 = t365 then (timesynclaw21_SampleWider.j1 kj10 (t379 != t385) t376 t377 t378 t379 t382 t383 t384 t385) else (timesynclaw21_SampleWider.j1 kj10 true t376 t377 t378 t379 t382 t383 t384 t385)) else (timesynclaw21_SampleWider.j1 kj10 true t376 t377 t378 t379 t382 t383 t384 t385)))) = some r := H
        have A65 := Aside0.mk A650
        clear A650
        have HC66 := Aside0.mk H
        clear H
        try go_wp2
        have n0_ := Aside0.mk (blk_drew BK359.out)
        have n1_ := Aside0.mk (blk_drew BK369.out)
        have n2_ := Aside0.mk (blk_drew BK375.out)
        have n3_ := Aside0.mk (blk_drew BK381.out)
        have n4_ := Aside0.mk (blk_drew BK387.out)
        have n5_ := Aside0.mk (blk_drew BK393.out)
        have n6_ := Aside0.mk (below_drew1 HB.out)
        clear BK359
        clear BK369
        clear BK375
        clear BK381
        clear BK387
        clear BK393
        clear HB
        have BK359 := n0_
        have BK369 := n1_
        have BK375 := n2_
        have BK381 := n3_
        have BK387 := n4_
        have BK393 := n5_
        have HB := n6_
        clear n0_ n1_ n2_ n3_ n4_ n5_ n6_
        refine start_ (n := 8) (S := fun w' => w'.cell? ⟨gb369, 0, none⟩ = some (.int .i64 t364) ∧ w'.cell? ⟨gb369, 1, none⟩ = some (.int .i64 t365) ∧ w'.cell? ⟨gb369, 2, none⟩ = some (.int .i64 t366) ∧ w'.cell? ⟨gb369, 3, none⟩ = some (.int .i64 t367) ∧ w'.cell? ⟨gb381, 0, none⟩ = some (.int .i64 t376) ∧ w'.cell? ⟨gb381, 1, none⟩ = some (.int .i64 t377) ∧ w'.cell? ⟨gb381, 2, none⟩ = some (.int .i64 t378) ∧ w'.cell? ⟨gb381, 3, none⟩ = some (.int .i64 t379)) (ds := []) b9_0 (by kernel_rfl) rfl rfl ⟨(blk_cell BK369.out 0).trans rfl, (blk_cell BK369.out 1).trans rfl, (blk_cell BK369.out 2).trans rfl, (blk_cell BK369.out 3).trans rfl, (blk_cell BK381.out 0).trans rfl, (blk_cell BK381.out 1).trans rfl, (blk_cell BK381.out 2).trans rfl, (blk_cell BK381.out 3).trans rfl⟩ (fun hHeld => ?_); refine with_tabW timesynclaw21_SampleWider.tab9 timesynclaw21_SampleWider.bits9 (fun HT_ HW_ => ?_)
        generalize wc.drew = w67 at BK359 BK369 BK375 BK381 BK387 BK393 HB hHeld ⊢
        refine take_ (i := 0) (N := some 99) (v := ?_) (a' := ?_) b9_1 rfl rfl (take_ofW HT_.out HW_.out (by kernel_rfl)) (fun _ _ _ h => h) (Or.inl ⟨by rfl, ?_⟩) hHeld ?_ ?_
        rotate_left
        · rintro w' ⟨s0, s1, s2, s3, s4, s5, s6, s7⟩
          go_simp
          with_reducible rfl
        rotate_left
        · simp only [Act.put, z1, z2, z3, i64_w, i32_w]
          rfl
        refine take_ (i := 2) (N := some 101) (v := ?_) (a' := ?_) b9_2 rfl rfl (take_ofW HT_.out HW_.out (by kernel_rfl)) (fun _ _ _ h => h) (Or.inl ⟨by rfl, ?_⟩) hHeld ?_ ?_
        rotate_left
        · rintro w' ⟨s0, s1, s2, s3, s4, s5, s6, s7⟩
          go_simp
          with_reducible rfl
        rotate_left
        · simp only [Act.put, z1, z2, z3, i64_w, i32_w]
          rfl
        refine join_ (σ := Nat × Nat) 2 b9_3 (fun s_ => [(100, .agg #[.int .i64 t394, .int .i64 t395]), (102, .agg #[.int .i64 t396, .int .i64 t397]), (20, .pointer (some ⟨s_.1, 0, none⟩)), (21, .pointer (some ⟨s_.2, 0, none⟩))]) (fun s_ w' => (w'.cell? ⟨gb369, 0, none⟩ = some (.int .i64 t364) ∧ w'.cell? ⟨gb369, 1, none⟩ = some (.int .i64 t365) ∧ w'.cell? ⟨gb369, 2, none⟩ = some (.int .i64 t366) ∧ w'.cell? ⟨gb369, 3, none⟩ = some (.int .i64 t367) ∧ w'.cell? ⟨gb381, 0, none⟩ = some (.int .i64 t376) ∧ w'.cell? ⟨gb381, 1, none⟩ = some (.int .i64 t377) ∧ w'.cell? ⟨gb381, 2, none⟩ = some (.int .i64 t378) ∧ w'.cell? ⟨gb381, 3, none⟩ = some (.int .i64 t379)) ∧ (w'.heap[gb359]? = some (.cells #[.int .u32 a0_0, .int .u32 a0_1, .int .u32 a0_2, .int .i32 a0_3, .int .i32 a0_4, .int .i32 a0_5] 39 (0, 0))) ∧ (w'.heap[gb369]? = some (.cells #[.int .i64 t364, .int .i64 t365, .int .i64 t366, .int .i64 t367] 25 (0, 0))) ∧ (w'.heap[gb375]? = some (.cells #[.int .i64 t370, .int .i64 t371, .int .i64 t372, .int .i64 t373] 25 (0, 0))) ∧ (w'.heap[gb381]? = some (.cells #[.int .i64 t376, .int .i64 t377, .int .i64 t378, .int .i64 t379] 25 (0, 0))) ∧ (w'.heap[gb387]? = some (.cells #[.int .i64 t382, .int .i64 t383, .int .i64 t384, .int .i64 t385] 25 (0, 0))) ∧ (w'.heap[gb393]? = some (.cells #[.int .i64 t388, .int .i64 t389, .int .i64 t390, .int .i64 t391] 25 (0, 0))) ∧ (w'.heap[s_.1]? = some (.cells #[.int .i64 0, .int .i64 0] 34 (0, 0))) ∧ (w'.heap[s_.2]? = some (.cells #[.int .i64 0, .int .i64 0] 34 (0, 0))) ∧ (w.heap.size ≤ s_.1) ∧ (w.heap.size ≤ s_.1) ∧ (gb359 ≠ s_.1) ∧ (s_.1 ≠ gb359) ∧ (gb369 ≠ s_.1) ∧ (s_.1 ≠ gb369) ∧ (gb375 ≠ s_.1) ∧ (s_.1 ≠ gb375) ∧ (gb381 ≠ s_.1) ∧ (s_.1 ≠ gb381) ∧ (gb387 ≠ s_.1) ∧ (s_.1 ≠ gb387) ∧ (gb393 ≠ s_.1) ∧ (s_.1 ≠ gb393) ∧ (s_.2 ≠ s_.1) ∧ (s_.1 ≠ s_.2) ∧ (w.heap.size ≤ s_.2) ∧ (w.heap.size ≤ s_.2) ∧ (gb359 ≠ s_.2) ∧ (s_.2 ≠ gb359) ∧ (gb369 ≠ s_.2) ∧ (s_.2 ≠ gb369) ∧ (gb375 ≠ s_.2) ∧ (s_.2 ≠ gb375) ∧ (gb381 ≠ s_.2) ∧ (s_.2 ≠ gb381) ∧ (gb387 ≠ s_.2) ∧ (s_.2 ≠ gb387) ∧ (gb393 ≠ s_.2) ∧ (s_.2 ≠ gb393) ∧ (Below w.heap.size w w')) ?_ ?_
        rotate_left
        · intro hJ1_3_4_5
          refine join_ (σ := Nat) 3 b9_4 (fun s_ => [(100, .agg #[.int .i64 t394, .int .i64 t395]), (102, .agg #[.int .i64 t396, .int .i64 t397]), (20, .pointer (some ⟨s_, 0, none⟩))]) (fun s_ w' => (w'.cell? ⟨gb369, 0, none⟩ = some (.int .i64 t364) ∧ w'.cell? ⟨gb369, 1, none⟩ = some (.int .i64 t365) ∧ w'.cell? ⟨gb369, 2, none⟩ = some (.int .i64 t366) ∧ w'.cell? ⟨gb369, 3, none⟩ = some (.int .i64 t367) ∧ w'.cell? ⟨gb381, 0, none⟩ = some (.int .i64 t376) ∧ w'.cell? ⟨gb381, 1, none⟩ = some (.int .i64 t377) ∧ w'.cell? ⟨gb381, 2, none⟩ = some (.int .i64 t378) ∧ w'.cell? ⟨gb381, 3, none⟩ = some (.int .i64 t379)) ∧ (w'.heap[gb359]? = some (.cells #[.int .u32 a0_0, .int .u32 a0_1, .int .u32 a0_2, .int .i32 a0_3, .int .i32 a0_4, .int .i32 a0_5] 39 (0, 0))) ∧ (w'.heap[gb369]? = some (.cells #[.int .i64 t364, .int .i64 t365, .int .i64 t366, .int .i64 t367] 25 (0, 0))) ∧ (w'.heap[gb375]? = some (.cells #[.int .i64 t370, .int .i64 t371, .int .i64 t372, .int .i64 t373] 25 (0, 0))) ∧ (w'.heap[gb381]? = some (.cells #[.int .i64 t376, .int .i64 t377, .int .i64 t378, .int .i64 t379] 25 (0, 0))) ∧ (w'.heap[gb387]? = some (.cells #[.int .i64 t382, .int .i64 t383, .int .i64 t384, .int .i64 t385] 25 (0, 0))) ∧ (w'.heap[gb393]? = some (.cells #[.int .i64 t388, .int .i64 t389, .int .i64 t390, .int .i64 t391] 25 (0, 0))) ∧ (w'.heap[s_]? = some (.cells #[.int .i64 0, .int .i64 0] 34 (0, 0))) ∧ (w.heap.size ≤ s_) ∧ (w.heap.size ≤ s_) ∧ (gb359 ≠ s_) ∧ (s_ ≠ gb359) ∧ (gb369 ≠ s_) ∧ (s_ ≠ gb369) ∧ (gb375 ≠ s_) ∧ (s_ ≠ gb375) ∧ (gb381 ≠ s_) ∧ (s_ ≠ gb381) ∧ (gb387 ≠ s_) ∧ (s_ ≠ gb387) ∧ (gb393 ≠ s_) ∧ (s_ ≠ gb393) ∧ (Below w.heap.size w w')) ?_ ?_
          rotate_left
          · intro hJ1_3_4
            refine join_ (σ := Nat) 3 b9_5 (fun s_ => [(100, .agg #[.int .i64 t394, .int .i64 t395]), (102, .agg #[.int .i64 t396, .int .i64 t397]), (21, .pointer (some ⟨s_, 0, none⟩))]) (fun s_ w' => (w'.cell? ⟨gb369, 0, none⟩ = some (.int .i64 t364) ∧ w'.cell? ⟨gb369, 1, none⟩ = some (.int .i64 t365) ∧ w'.cell? ⟨gb369, 2, none⟩ = some (.int .i64 t366) ∧ w'.cell? ⟨gb369, 3, none⟩ = some (.int .i64 t367) ∧ w'.cell? ⟨gb381, 0, none⟩ = some (.int .i64 t376) ∧ w'.cell? ⟨gb381, 1, none⟩ = some (.int .i64 t377) ∧ w'.cell? ⟨gb381, 2, none⟩ = some (.int .i64 t378) ∧ w'.cell? ⟨gb381, 3, none⟩ = some (.int .i64 t379)) ∧ (w'.heap[gb359]? = some (.cells #[.int .u32 a0_0, .int .u32 a0_1, .int .u32 a0_2, .int .i32 a0_3, .int .i32 a0_4, .int .i32 a0_5] 39 (0, 0))) ∧ (w'.heap[gb369]? = some (.cells #[.int .i64 t364, .int .i64 t365, .int .i64 t366, .int .i64 t367] 25 (0, 0))) ∧ (w'.heap[gb375]? = some (.cells #[.int .i64 t370, .int .i64 t371, .int .i64 t372, .int .i64 t373] 25 (0, 0))) ∧ (w'.heap[gb381]? = some (.cells #[.int .i64 t376, .int .i64 t377, .int .i64 t378, .int .i64 t379] 25 (0, 0))) ∧ (w'.heap[gb387]? = some (.cells #[.int .i64 t382, .int .i64 t383, .int .i64 t384, .int .i64 t385] 25 (0, 0))) ∧ (w'.heap[gb393]? = some (.cells #[.int .i64 t388, .int .i64 t389, .int .i64 t390, .int .i64 t391] 25 (0, 0))) ∧ (w'.heap[s_]? = some (.cells #[.int .i64 0, .int .i64 0] 34 (0, 0))) ∧ (w.heap.size ≤ s_) ∧ (w.heap.size ≤ s_) ∧ (gb359 ≠ s_) ∧ (s_ ≠ gb359) ∧ (gb369 ≠ s_) ∧ (s_ ≠ gb369) ∧ (gb375 ≠ s_) ∧ (s_ ≠ gb375) ∧ (gb381 ≠ s_) ∧ (s_ ≠ gb381) ∧ (gb387 ≠ s_) ∧ (s_ ≠ gb387) ∧ (gb393 ≠ s_) ∧ (s_ ≠ gb393) ∧ (Below w.heap.size w w')) ?_ ?_
            rotate_left
            · intro hJ1_3_5
              refine join_ (σ := Nat × Nat) 3 b9_6 (fun s_ => [(100, .agg #[.int .i64 t394, .int .i64 t395]), (20, .pointer (some ⟨s_.1, 0, none⟩)), (21, .pointer (some ⟨s_.2, 0, none⟩))]) (fun s_ w' => (w'.cell? ⟨gb369, 0, none⟩ = some (.int .i64 t364) ∧ w'.cell? ⟨gb369, 1, none⟩ = some (.int .i64 t365) ∧ w'.cell? ⟨gb369, 2, none⟩ = some (.int .i64 t366) ∧ w'.cell? ⟨gb369, 3, none⟩ = some (.int .i64 t367) ∧ w'.cell? ⟨gb381, 0, none⟩ = some (.int .i64 t376) ∧ w'.cell? ⟨gb381, 1, none⟩ = some (.int .i64 t377) ∧ w'.cell? ⟨gb381, 2, none⟩ = some (.int .i64 t378) ∧ w'.cell? ⟨gb381, 3, none⟩ = some (.int .i64 t379)) ∧ (w'.heap[gb359]? = some (.cells #[.int .u32 a0_0, .int .u32 a0_1, .int .u32 a0_2, .int .i32 a0_3, .int .i32 a0_4, .int .i32 a0_5] 39 (0, 0))) ∧ (w'.heap[gb369]? = some (.cells #[.int .i64 t364, .int .i64 t365, .int .i64 t366, .int .i64 t367] 25 (0, 0))) ∧ (w'.heap[gb375]? = some (.cells #[.int .i64 t370, .int .i64 t371, .int .i64 t372, .int .i64 t373] 25 (0, 0))) ∧ (w'.heap[gb381]? = some (.cells #[.int .i64 t376, .int .i64 t377, .int .i64 t378, .int .i64 t379] 25 (0, 0))) ∧ (w'.heap[gb387]? = some (.cells #[.int .i64 t382, .int .i64 t383, .int .i64 t384, .int .i64 t385] 25 (0, 0))) ∧ (w'.heap[gb393]? = some (.cells #[.int .i64 t388, .int .i64 t389, .int .i64 t390, .int .i64 t391] 25 (0, 0))) ∧ (w'.heap[s_.1]? = some (.cells #[.int .i64 0, .int .i64 0] 34 (0, 0))) ∧ (w'.heap[s_.2]? = some (.cells #[.int .i64 0, .int .i64 0] 34 (0, 0))) ∧ (w.heap.size ≤ s_.1) ∧ (w.heap.size ≤ s_.1) ∧ (gb359 ≠ s_.1) ∧ (s_.1 ≠ gb359) ∧ (gb369 ≠ s_.1) ∧ (s_.1 ≠ gb369) ∧ (gb375 ≠ s_.1) ∧ (s_.1 ≠ gb375) ∧ (gb381 ≠ s_.1) ∧ (s_.1 ≠ gb381) ∧ (gb387 ≠ s_.1) ∧ (s_.1 ≠ gb387) ∧ (gb393 ≠ s_.1) ∧ (s_.1 ≠ gb393) ∧ (s_.2 ≠ s_.1) ∧ (s_.1 ≠ s_.2) ∧ (w.heap.size ≤ s_.2) ∧ (w.heap.size ≤ s_.2) ∧ (gb359 ≠ s_.2) ∧ (s_.2 ≠ gb359) ∧ (gb369 ≠ s_.2) ∧ (s_.2 ≠ gb369) ∧ (gb375 ≠ s_.2) ∧ (s_.2 ≠ gb375) ∧ (gb381 ≠ s_.2) ∧ (s_.2 ≠ gb381) ∧ (gb387 ≠ s_.2) ∧ (s_.2 ≠ gb387) ∧ (gb393 ≠ s_.2) ∧ (s_.2 ≠ gb393) ∧ (Below w.heap.size w w')) ?_ ?_
              rotate_left
              · intro hJ1_4_5
                refine join_ (σ := Unit) 4 b9_7 (fun s_ => [(100, .agg #[.int .i64 t394, .int .i64 t395]), (102, .agg #[.int .i64 t396, .int .i64 t397])]) (fun s_ w' => (w'.cell? ⟨gb369, 0, none⟩ = some (.int .i64 t364) ∧ w'.cell? ⟨gb369, 1, none⟩ = some (.int .i64 t365) ∧ w'.cell? ⟨gb369, 2, none⟩ = some (.int .i64 t366) ∧ w'.cell? ⟨gb369, 3, none⟩ = some (.int .i64 t367) ∧ w'.cell? ⟨gb381, 0, none⟩ = some (.int .i64 t376) ∧ w'.cell? ⟨gb381, 1, none⟩ = some (.int .i64 t377) ∧ w'.cell? ⟨gb381, 2, none⟩ = some (.int .i64 t378) ∧ w'.cell? ⟨gb381, 3, none⟩ = some (.int .i64 t379)) ∧ (w'.heap[gb359]? = some (.cells #[.int .u32 a0_0, .int .u32 a0_1, .int .u32 a0_2, .int .i32 a0_3, .int .i32 a0_4, .int .i32 a0_5] 39 (0, 0))) ∧ (w'.heap[gb369]? = some (.cells #[.int .i64 t364, .int .i64 t365, .int .i64 t366, .int .i64 t367] 25 (0, 0))) ∧ (w'.heap[gb375]? = some (.cells #[.int .i64 t370, .int .i64 t371, .int .i64 t372, .int .i64 t373] 25 (0, 0))) ∧ (w'.heap[gb381]? = some (.cells #[.int .i64 t376, .int .i64 t377, .int .i64 t378, .int .i64 t379] 25 (0, 0))) ∧ (w'.heap[gb387]? = some (.cells #[.int .i64 t382, .int .i64 t383, .int .i64 t384, .int .i64 t385] 25 (0, 0))) ∧ (w'.heap[gb393]? = some (.cells #[.int .i64 t388, .int .i64 t389, .int .i64 t390, .int .i64 t391] 25 (0, 0))) ∧ (Below w.heap.size w w')) ?_ ?_
                rotate_left
                · intro hJ1_3
                  refine join_ (σ := Nat) 4 b9_8 (fun s_ => [(100, .agg #[.int .i64 t394, .int .i64 t395]), (20, .pointer (some ⟨s_, 0, none⟩))]) (fun s_ w' => (w'.cell? ⟨gb369, 0, none⟩ = some (.int .i64 t364) ∧ w'.cell? ⟨gb369, 1, none⟩ = some (.int .i64 t365) ∧ w'.cell? ⟨gb369, 2, none⟩ = some (.int .i64 t366) ∧ w'.cell? ⟨gb369, 3, none⟩ = some (.int .i64 t367) ∧ w'.cell? ⟨gb381, 0, none⟩ = some (.int .i64 t376) ∧ w'.cell? ⟨gb381, 1, none⟩ = some (.int .i64 t377) ∧ w'.cell? ⟨gb381, 2, none⟩ = some (.int .i64 t378) ∧ w'.cell? ⟨gb381, 3, none⟩ = some (.int .i64 t379)) ∧ (w'.heap[gb359]? = some (.cells #[.int .u32 a0_0, .int .u32 a0_1, .int .u32 a0_2, .int .i32 a0_3, .int .i32 a0_4, .int .i32 a0_5] 39 (0, 0))) ∧ (w'.heap[gb369]? = some (.cells #[.int .i64 t364, .int .i64 t365, .int .i64 t366, .int .i64 t367] 25 (0, 0))) ∧ (w'.heap[gb375]? = some (.cells #[.int .i64 t370, .int .i64 t371, .int .i64 t372, .int .i64 t373] 25 (0, 0))) ∧ (w'.heap[gb381]? = some (.cells #[.int .i64 t376, .int .i64 t377, .int .i64 t378, .int .i64 t379] 25 (0, 0))) ∧ (w'.heap[gb387]? = some (.cells #[.int .i64 t382, .int .i64 t383, .int .i64 t384, .int .i64 t385] 25 (0, 0))) ∧ (w'.heap[gb393]? = some (.cells #[.int .i64 t388, .int .i64 t389, .int .i64 t390, .int .i64 t391] 25 (0, 0))) ∧ (w'.heap[s_]? = some (.cells #[.int .i64 0, .int .i64 0] 34 (0, 0))) ∧ (w.heap.size ≤ s_) ∧ (w.heap.size ≤ s_) ∧ (gb359 ≠ s_) ∧ (s_ ≠ gb359) ∧ (gb369 ≠ s_) ∧ (s_ ≠ gb369) ∧ (gb375 ≠ s_) ∧ (s_ ≠ gb375) ∧ (gb381 ≠ s_) ∧ (s_ ≠ gb381) ∧ (gb387 ≠ s_) ∧ (s_ ≠ gb387) ∧ (gb393 ≠ s_) ∧ (s_ ≠ gb393) ∧ (Below w.heap.size w w')) ?_ ?_
                  rotate_left
                  · intro hJ1_4
                    refine join_ (σ := Nat) 4 b9_9 (fun s_ => [(100, .agg #[.int .i64 t394, .int .i64 t395]), (21, .pointer (some ⟨s_, 0, none⟩))]) (fun s_ w' => (w'.cell? ⟨gb369, 0, none⟩ = some (.int .i64 t364) ∧ w'.cell? ⟨gb369, 1, none⟩ = some (.int .i64 t365) ∧ w'.cell? ⟨gb369, 2, none⟩ = some (.int .i64 t366) ∧ w'.cell? ⟨gb369, 3, none⟩ = some (.int .i64 t367) ∧ w'.cell? ⟨gb381, 0, none⟩ = some (.int .i64 t376) ∧ w'.cell? ⟨gb381, 1, none⟩ = some (.int .i64 t377) ∧ w'.cell? ⟨gb381, 2, none⟩ = some (.int .i64 t378) ∧ w'.cell? ⟨gb381, 3, none⟩ = some (.int .i64 t379)) ∧ (w'.heap[gb359]? = some (.cells #[.int .u32 a0_0, .int .u32 a0_1, .int .u32 a0_2, .int .i32 a0_3, .int .i32 a0_4, .int .i32 a0_5] 39 (0, 0))) ∧ (w'.heap[gb369]? = some (.cells #[.int .i64 t364, .int .i64 t365, .int .i64 t366, .int .i64 t367] 25 (0, 0))) ∧ (w'.heap[gb375]? = some (.cells #[.int .i64 t370, .int .i64 t371, .int .i64 t372, .int .i64 t373] 25 (0, 0))) ∧ (w'.heap[gb381]? = some (.cells #[.int .i64 t376, .int .i64 t377, .int .i64 t378, .int .i64 t379] 25 (0, 0))) ∧ (w'.heap[gb387]? = some (.cells #[.int .i64 t382, .int .i64 t383, .int .i64 t384, .int .i64 t385] 25 (0, 0))) ∧ (w'.heap[gb393]? = some (.cells #[.int .i64 t388, .int .i64 t389, .int .i64 t390, .int .i64 t391] 25 (0, 0))) ∧ (w'.heap[s_]? = some (.cells #[.int .i64 0, .int .i64 0] 34 (0, 0))) ∧ (w.heap.size ≤ s_) ∧ (w.heap.size ≤ s_) ∧ (gb359 ≠ s_) ∧ (s_ ≠ gb359) ∧ (gb369 ≠ s_) ∧ (s_ ≠ gb369) ∧ (gb375 ≠ s_) ∧ (s_ ≠ gb375) ∧ (gb381 ≠ s_) ∧ (s_ ≠ gb381) ∧ (gb387 ≠ s_) ∧ (s_ ≠ gb387) ∧ (gb393 ≠ s_) ∧ (s_ ≠ gb393) ∧ (Below w.heap.size w w')) ?_ ?_
                    rotate_left
                    · intro hJ1_5
                      refine join_ (σ := Nat × Nat) 4 b9_10 (fun s_ => [(20, .pointer (some ⟨s_.1, 0, none⟩)), (21, .pointer (some ⟨s_.2, 0, none⟩))]) (fun s_ w' => (w'.cell? ⟨gb369, 0, none⟩ = some (.int .i64 t364) ∧ w'.cell? ⟨gb369, 1, none⟩ = some (.int .i64 t365) ∧ w'.cell? ⟨gb369, 2, none⟩ = some (.int .i64 t366) ∧ w'.cell? ⟨gb369, 3, none⟩ = some (.int .i64 t367) ∧ w'.cell? ⟨gb381, 0, none⟩ = some (.int .i64 t376) ∧ w'.cell? ⟨gb381, 1, none⟩ = some (.int .i64 t377) ∧ w'.cell? ⟨gb381, 2, none⟩ = some (.int .i64 t378) ∧ w'.cell? ⟨gb381, 3, none⟩ = some (.int .i64 t379)) ∧ (w'.heap[gb359]? = some (.cells #[.int .u32 a0_0, .int .u32 a0_1, .int .u32 a0_2, .int .i32 a0_3, .int .i32 a0_4, .int .i32 a0_5] 39 (0, 0))) ∧ (w'.heap[gb369]? = some (.cells #[.int .i64 t364, .int .i64 t365, .int .i64 t366, .int .i64 t367] 25 (0, 0))) ∧ (w'.heap[gb375]? = some (.cells #[.int .i64 t370, .int .i64 t371, .int .i64 t372, .int .i64 t373] 25 (0, 0))) ∧ (w'.heap[gb381]? = some (.cells #[.int .i64 t376, .int .i64 t377, .int .i64 t378, .int .i64 t379] 25 (0, 0))) ∧ (w'.heap[gb387]? = some (.cells #[.int .i64 t382, .int .i64 t383, .int .i64 t384, .int .i64 t385] 25 (0, 0))) ∧ (w'.heap[gb393]? = some (.cells #[.int .i64 t388, .int .i64 t389, .int .i64 t390, .int .i64 t391] 25 (0, 0))) ∧ (w'.heap[s_.1]? = some (.cells #[.int .i64 0, .int .i64 0] 34 (0, 0))) ∧ (w'.heap[s_.2]? = some (.cells #[.int .i64 0, .int .i64 0] 34 (0, 0))) ∧ (w.heap.size ≤ s_.1) ∧ (w.heap.size ≤ s_.1) ∧ (gb359 ≠ s_.1) ∧ (s_.1 ≠ gb359) ∧ (gb369 ≠ s_.1) ∧ (s_.1 ≠ gb369) ∧ (gb375 ≠ s_.1) ∧ (s_.1 ≠ gb375) ∧ (gb381 ≠ s_.1) ∧ (s_.1 ≠ gb381) ∧ (gb387 ≠ s_.1) ∧ (s_.1 ≠ gb387) ∧ (gb393 ≠ s_.1) ∧ (s_.1 ≠ gb393) ∧ (s_.2 ≠ s_.1) ∧ (s_.1 ≠ s_.2) ∧ (w.heap.size ≤ s_.2) ∧ (w.heap.size ≤ s_.2) ∧ (gb359 ≠ s_.2) ∧ (s_.2 ≠ gb359) ∧ (gb369 ≠ s_.2) ∧ (s_.2 ≠ gb369) ∧ (gb375 ≠ s_.2) ∧ (s_.2 ≠ gb375) ∧ (gb381 ≠ s_.2) ∧ (s_.2 ≠ gb381) ∧ (gb387 ≠ s_.2) ∧ (s_.2 ≠ gb387) ∧ (gb393 ≠ s_.2) ∧ (s_.2 ≠ gb393) ∧ (Below w.heap.size w w')) ?_ ?_
                      rotate_left
                      · intro hJ4_5
                        refine join_ (σ := Unit) 5 b9_11 (fun s_ => [(100, .agg #[.int .i64 t394, .int .i64 t395])]) (fun s_ w' => (w'.cell? ⟨gb369, 0, none⟩ = some (.int .i64 t364) ∧ w'.cell? ⟨gb369, 1, none⟩ = some (.int .i64 t365) ∧ w'.cell? ⟨gb369, 2, none⟩ = some (.int .i64 t366) ∧ w'.cell? ⟨gb369, 3, none⟩ = some (.int .i64 t367) ∧ w'.cell? ⟨gb381, 0, none⟩ = some (.int .i64 t376) ∧ w'.cell? ⟨gb381, 1, none⟩ = some (.int .i64 t377) ∧ w'.cell? ⟨gb381, 2, none⟩ = some (.int .i64 t378) ∧ w'.cell? ⟨gb381, 3, none⟩ = some (.int .i64 t379)) ∧ (w'.heap[gb359]? = some (.cells #[.int .u32 a0_0, .int .u32 a0_1, .int .u32 a0_2, .int .i32 a0_3, .int .i32 a0_4, .int .i32 a0_5] 39 (0, 0))) ∧ (w'.heap[gb369]? = some (.cells #[.int .i64 t364, .int .i64 t365, .int .i64 t366, .int .i64 t367] 25 (0, 0))) ∧ (w'.heap[gb375]? = some (.cells #[.int .i64 t370, .int .i64 t371, .int .i64 t372, .int .i64 t373] 25 (0, 0))) ∧ (w'.heap[gb381]? = some (.cells #[.int .i64 t376, .int .i64 t377, .int .i64 t378, .int .i64 t379] 25 (0, 0))) ∧ (w'.heap[gb387]? = some (.cells #[.int .i64 t382, .int .i64 t383, .int .i64 t384, .int .i64 t385] 25 (0, 0))) ∧ (w'.heap[gb393]? = some (.cells #[.int .i64 t388, .int .i64 t389, .int .i64 t390, .int .i64 t391] 25 (0, 0))) ∧ (Below w.heap.size w w')) ?_ ?_
                        rotate_left
                        · intro hJ1
                          refine join_ (σ := Nat) 5 b9_12 (fun s_ => [(20, .pointer (some ⟨s_, 0, none⟩))]) (fun s_ w' => (w'.cell? ⟨gb369, 0, none⟩ = some (.int .i64 t364) ∧ w'.cell? ⟨gb369, 1, none⟩ = some (.int .i64 t365) ∧ w'.cell? ⟨gb369, 2, none⟩ = some (.int .i64 t366) ∧ w'.cell? ⟨gb369, 3, none⟩ = some (.int .i64 t367) ∧ w'.cell? ⟨gb381, 0, none⟩ = some (.int .i64 t376) ∧ w'.cell? ⟨gb381, 1, none⟩ = some (.int .i64 t377) ∧ w'.cell? ⟨gb381, 2, none⟩ = some (.int .i64 t378) ∧ w'.cell? ⟨gb381, 3, none⟩ = some (.int .i64 t379)) ∧ (w'.heap[gb359]? = some (.cells #[.int .u32 a0_0, .int .u32 a0_1, .int .u32 a0_2, .int .i32 a0_3, .int .i32 a0_4, .int .i32 a0_5] 39 (0, 0))) ∧ (w'.heap[gb369]? = some (.cells #[.int .i64 t364, .int .i64 t365, .int .i64 t366, .int .i64 t367] 25 (0, 0))) ∧ (w'.heap[gb375]? = some (.cells #[.int .i64 t370, .int .i64 t371, .int .i64 t372, .int .i64 t373] 25 (0, 0))) ∧ (w'.heap[gb381]? = some (.cells #[.int .i64 t376, .int .i64 t377, .int .i64 t378, .int .i64 t379] 25 (0, 0))) ∧ (w'.heap[gb387]? = some (.cells #[.int .i64 t382, .int .i64 t383, .int .i64 t384, .int .i64 t385] 25 (0, 0))) ∧ (w'.heap[gb393]? = some (.cells #[.int .i64 t388, .int .i64 t389, .int .i64 t390, .int .i64 t391] 25 (0, 0))) ∧ (w'.heap[s_]? = some (.cells #[.int .i64 0, .int .i64 0] 34 (0, 0))) ∧ (w.heap.size ≤ s_) ∧ (w.heap.size ≤ s_) ∧ (gb359 ≠ s_) ∧ (s_ ≠ gb359) ∧ (gb369 ≠ s_) ∧ (s_ ≠ gb369) ∧ (gb375 ≠ s_) ∧ (s_ ≠ gb375) ∧ (gb381 ≠ s_) ∧ (s_ ≠ gb381) ∧ (gb387 ≠ s_) ∧ (s_ ≠ gb387) ∧ (gb393 ≠ s_) ∧ (s_ ≠ gb393) ∧ (Below w.heap.size w w')) ?_ ?_
                          rotate_left
                          · intro hJ4
                            refine join_ (σ := Nat) 5 b9_13 (fun s_ => [(21, .pointer (some ⟨s_, 0, none⟩))]) (fun s_ w' => (w'.cell? ⟨gb369, 0, none⟩ = some (.int .i64 t364) ∧ w'.cell? ⟨gb369, 1, none⟩ = some (.int .i64 t365) ∧ w'.cell? ⟨gb369, 2, none⟩ = some (.int .i64 t366) ∧ w'.cell? ⟨gb369, 3, none⟩ = some (.int .i64 t367) ∧ w'.cell? ⟨gb381, 0, none⟩ = some (.int .i64 t376) ∧ w'.cell? ⟨gb381, 1, none⟩ = some (.int .i64 t377) ∧ w'.cell? ⟨gb381, 2, none⟩ = some (.int .i64 t378) ∧ w'.cell? ⟨gb381, 3, none⟩ = some (.int .i64 t379)) ∧ (w'.heap[gb359]? = some (.cells #[.int .u32 a0_0, .int .u32 a0_1, .int .u32 a0_2, .int .i32 a0_3, .int .i32 a0_4, .int .i32 a0_5] 39 (0, 0))) ∧ (w'.heap[gb369]? = some (.cells #[.int .i64 t364, .int .i64 t365, .int .i64 t366, .int .i64 t367] 25 (0, 0))) ∧ (w'.heap[gb375]? = some (.cells #[.int .i64 t370, .int .i64 t371, .int .i64 t372, .int .i64 t373] 25 (0, 0))) ∧ (w'.heap[gb381]? = some (.cells #[.int .i64 t376, .int .i64 t377, .int .i64 t378, .int .i64 t379] 25 (0, 0))) ∧ (w'.heap[gb387]? = some (.cells #[.int .i64 t382, .int .i64 t383, .int .i64 t384, .int .i64 t385] 25 (0, 0))) ∧ (w'.heap[gb393]? = some (.cells #[.int .i64 t388, .int .i64 t389, .int .i64 t390, .int .i64 t391] 25 (0, 0))) ∧ (w'.heap[s_]? = some (.cells #[.int .i64 0, .int .i64 0] 34 (0, 0))) ∧ (w.heap.size ≤ s_) ∧ (w.heap.size ≤ s_) ∧ (gb359 ≠ s_) ∧ (s_ ≠ gb359) ∧ (gb369 ≠ s_) ∧ (s_ ≠ gb369) ∧ (gb375 ≠ s_) ∧ (s_ ≠ gb375) ∧ (gb381 ≠ s_) ∧ (s_ ≠ gb381) ∧ (gb387 ≠ s_) ∧ (s_ ≠ gb387) ∧ (gb393 ≠ s_) ∧ (s_ ≠ gb393) ∧ (Below w.heap.size w w')) ?_ ?_
                            rotate_left
                            · intro hJ5
                              refine three_ (i := 1) (j := 4) (k := 5) (Ni := some 100) (Nj := some 20) (Nk := some 21) b9_11 b9_12 b9_13 rfl rfl rfl rfl rfl rfl (three_of HT_.out (by kernel_rfl)) (by decide) (by decide) (by decide) (fun K hK => ?_) (fun K hK => ?_) (fun K hK => ?_)
                              · skip
                                refine goes_ Try.func17 (by kernel_rfl) rfl #[.agg #[.int .i64 t364, .int .i64 t365, .int .i64 t366, .int .i64 t367]] (by rfl) rfl rfl sl_ ?_
                                with_reducible refine (sample_Bounds.calls t364 t365 t366 t367 t394 t395 _ A64.out).mono ?_
                                rintro e w68 ⟨rfl, hb⟩
                                refine ⟨_, rfl, ?_⟩
                                have n0_ := Aside0.mk (bb BK359.out hb)
                                have n1_ := Aside0.mk (bb BK369.out hb)
                                have n2_ := Aside0.mk (bb BK375.out hb)
                                have n3_ := Aside0.mk (bb BK381.out hb)
                                have n4_ := Aside0.mk (bb BK387.out hb)
                                have n5_ := Aside0.mk (bb BK393.out hb)
                                have n6_ := Aside0.mk (below_step hb_ hb)
                                clear BK359
                                clear BK369
                                clear BK375
                                clear BK381
                                clear BK387
                                clear BK393
                                clear HB
                                have BK359 := n0_
                                have BK369 := n1_
                                have BK375 := n2_
                                have BK381 := n3_
                                have BK387 := n4_
                                have BK393 := n5_
                                have HB := n6_
                                clear n0_ n1_ n2_ n3_ n4_ n5_ n6_
                                (try clear hb)
                                (try clear hb2)
                                (try clear hk)
                                (try clear hi)
                                refine hK.out _ _ ⟨(blk_cell BK369.out 0).trans rfl, (blk_cell BK369.out 1).trans rfl, (blk_cell BK369.out 2).trans rfl, (blk_cell BK369.out 3).trans rfl, (blk_cell BK381.out 0).trans rfl, (blk_cell BK381.out 1).trans rfl, (blk_cell BK381.out 2).trans rfl, (blk_cell BK381.out 3).trans rfl⟩ (fun hHeld => ?_)
                                clear hK K
                                refine norm_ (a' := ?_) ?_ ?_
                                rotate_left
                                · show Act.put _ (some 100) _ = _
                                  simp only [Act.put, z1, z2, z3, i64_w, i32_w]
                                  rfl
                                exact norm_ (by first | (simp only [putAll, Act.put, z1, z2, z3]; done) | (simp only [putAll, Act.put, z1, z2, z3]; rfl)) (hJ1 () _ ⟨hHeld, (bp BK359.out), (bp BK369.out), (bp BK375.out), (bp BK381.out), (bp BK387.out), (bp BK393.out), hb_⟩)
                              · skip
                                refine box_step ?hg (N := 20) ?hd (cs := #[.int .i64 0, .int .i64 0]) (t := 34) ?hr ?_; (case hd => rfl); (case hg => rfl); (case hr => first | (go_simp; done) | (go_simp; rfl))
                                intro gb398 hg w68 hbox hb
                                have n0_ := Aside0.mk (bb BK359.out hb)
                                have n1_ := Aside0.mk (bb BK369.out hb)
                                have n2_ := Aside0.mk (bb BK375.out hb)
                                have n3_ := Aside0.mk (bb BK381.out hb)
                                have n4_ := Aside0.mk (bb BK387.out hb)
                                have n5_ := Aside0.mk (bb BK393.out hb)
                                have n6_ := Aside0.mk (below_step hb_ hb)
                                have n7_ := Aside0.mk (hbox)
                                have n8_ := Aside0.mk ((by rw [hg]; exact (below_size hb_) : w.heap.size ≤ gb398))
                                have n9_ := Aside0.mk ((by rw [hg]; exact (below_size hb_) : w.heap.size ≤ gb398))
                                have n10_ := Aside0.mk ((by rw [hg]; exact Nat.ne_of_lt (bl BK359.out) : gb359 ≠ gb398))
                                have n11_ := Aside0.mk ((by rw [hg]; exact Nat.ne_of_gt (bl BK359.out) : gb398 ≠ gb359))
                                have n12_ := Aside0.mk ((by rw [hg]; exact Nat.ne_of_lt (bl BK369.out) : gb369 ≠ gb398))
                                have n13_ := Aside0.mk ((by rw [hg]; exact Nat.ne_of_gt (bl BK369.out) : gb398 ≠ gb369))
                                have n14_ := Aside0.mk ((by rw [hg]; exact Nat.ne_of_lt (bl BK375.out) : gb375 ≠ gb398))
                                have n15_ := Aside0.mk ((by rw [hg]; exact Nat.ne_of_gt (bl BK375.out) : gb398 ≠ gb375))
                                have n16_ := Aside0.mk ((by rw [hg]; exact Nat.ne_of_lt (bl BK381.out) : gb381 ≠ gb398))
                                have n17_ := Aside0.mk ((by rw [hg]; exact Nat.ne_of_gt (bl BK381.out) : gb398 ≠ gb381))
                                have n18_ := Aside0.mk ((by rw [hg]; exact Nat.ne_of_lt (bl BK387.out) : gb387 ≠ gb398))
                                have n19_ := Aside0.mk ((by rw [hg]; exact Nat.ne_of_gt (bl BK387.out) : gb398 ≠ gb387))
                                have n20_ := Aside0.mk ((by rw [hg]; exact Nat.ne_of_lt (bl BK393.out) : gb393 ≠ gb398))
                                have n21_ := Aside0.mk ((by rw [hg]; exact Nat.ne_of_gt (bl BK393.out) : gb398 ≠ gb393))
                                clear BK359
                                clear BK369
                                clear BK375
                                clear BK381
                                clear BK387
                                clear BK393
                                clear HB
                                have BK359 := n0_
                                have BK369 := n1_
                                have BK375 := n2_
                                have BK381 := n3_
                                have BK387 := n4_
                                have BK393 := n5_
                                have HB := n6_
                                have BK398 := n7_
                                have GW398 := n8_
                                have GE398 := n9_
                                have NB359_398 := n10_
                                have NB398_359 := n11_
                                have NB369_398 := n12_
                                have NB398_369 := n13_
                                have NB375_398 := n14_
                                have NB398_375 := n15_
                                have NB381_398 := n16_
                                have NB398_381 := n17_
                                have NB387_398 := n18_
                                have NB398_387 := n19_
                                have NB393_398 := n20_
                                have NB398_393 := n21_
                                clear n0_ n1_ n2_ n3_ n4_ n5_ n6_ n7_ n8_ n9_ n10_ n11_ n12_ n13_ n14_ n15_ n16_ n17_ n18_ n19_ n20_ n21_
                                clear hb hbox hg
                                refine hK.out _ _ ⟨(blk_cell BK369.out 0).trans rfl, (blk_cell BK369.out 1).trans rfl, (blk_cell BK369.out 2).trans rfl, (blk_cell BK369.out 3).trans rfl, (blk_cell BK381.out 0).trans rfl, (blk_cell BK381.out 1).trans rfl, (blk_cell BK381.out 2).trans rfl, (blk_cell BK381.out 3).trans rfl⟩ (fun hHeld => ?_)
                                clear hK K
                                refine norm_ (a' := ?_) ?_ ?_
                                rotate_left
                                · show Act.put _ (some 20) _ = _
                                  simp only [Act.put, z1, z2, z3, i64_w, i32_w]
                                  rfl
                                exact norm_ (by first | (simp only [putAll, Act.put, z1, z2, z3]; done) | (simp only [putAll, Act.put, z1, z2, z3]; rfl)) (hJ4 (gb398) _ ⟨hHeld, (bp BK359.out), (bp BK369.out), (bp BK375.out), (bp BK381.out), (bp BK387.out), (bp BK393.out), (bp BK398.out), GW398.out, GE398.out, NB359_398.out, NB398_359.out, NB369_398.out, NB398_369.out, NB375_398.out, NB398_375.out, NB381_398.out, NB398_381.out, NB387_398.out, NB398_387.out, NB393_398.out, NB398_393.out, hb_⟩)
                              · skip
                                refine box_step ?hg (N := 21) ?hd (cs := #[.int .i64 0, .int .i64 0]) (t := 34) ?hr ?_; (case hd => rfl); (case hg => rfl); (case hr => first | (go_simp; done) | (go_simp; rfl))
                                intro gb399 hg w68 hbox hb
                                have n0_ := Aside0.mk (bb BK359.out hb)
                                have n1_ := Aside0.mk (bb BK369.out hb)
                                have n2_ := Aside0.mk (bb BK375.out hb)
                                have n3_ := Aside0.mk (bb BK381.out hb)
                                have n4_ := Aside0.mk (bb BK387.out hb)
                                have n5_ := Aside0.mk (bb BK393.out hb)
                                have n6_ := Aside0.mk (below_step hb_ hb)
                                have n7_ := Aside0.mk (hbox)
                                have n8_ := Aside0.mk ((by rw [hg]; exact (below_size hb_) : w.heap.size ≤ gb399))
                                have n9_ := Aside0.mk ((by rw [hg]; exact (below_size hb_) : w.heap.size ≤ gb399))
                                have n10_ := Aside0.mk ((by rw [hg]; exact Nat.ne_of_lt (bl BK359.out) : gb359 ≠ gb399))
                                have n11_ := Aside0.mk ((by rw [hg]; exact Nat.ne_of_gt (bl BK359.out) : gb399 ≠ gb359))
                                have n12_ := Aside0.mk ((by rw [hg]; exact Nat.ne_of_lt (bl BK369.out) : gb369 ≠ gb399))
                                have n13_ := Aside0.mk ((by rw [hg]; exact Nat.ne_of_gt (bl BK369.out) : gb399 ≠ gb369))
                                have n14_ := Aside0.mk ((by rw [hg]; exact Nat.ne_of_lt (bl BK375.out) : gb375 ≠ gb399))
                                have n15_ := Aside0.mk ((by rw [hg]; exact Nat.ne_of_gt (bl BK375.out) : gb399 ≠ gb375))
                                have n16_ := Aside0.mk ((by rw [hg]; exact Nat.ne_of_lt (bl BK381.out) : gb381 ≠ gb399))
                                have n17_ := Aside0.mk ((by rw [hg]; exact Nat.ne_of_gt (bl BK381.out) : gb399 ≠ gb381))
                                have n18_ := Aside0.mk ((by rw [hg]; exact Nat.ne_of_lt (bl BK387.out) : gb387 ≠ gb399))
                                have n19_ := Aside0.mk ((by rw [hg]; exact Nat.ne_of_gt (bl BK387.out) : gb399 ≠ gb387))
                                have n20_ := Aside0.mk ((by rw [hg]; exact Nat.ne_of_lt (bl BK393.out) : gb393 ≠ gb399))
                                have n21_ := Aside0.mk ((by rw [hg]; exact Nat.ne_of_gt (bl BK393.out) : gb399 ≠ gb393))
                                clear BK359
                                clear BK369
                                clear BK375
                                clear BK381
                                clear BK387
                                clear BK393
                                clear HB
                                have BK359 := n0_
                                have BK369 := n1_
                                have BK375 := n2_
                                have BK381 := n3_
                                have BK387 := n4_
                                have BK393 := n5_
                                have HB := n6_
                                have BK399 := n7_
                                have GW399 := n8_
                                have GE399 := n9_
                                have NB359_399 := n10_
                                have NB399_359 := n11_
                                have NB369_399 := n12_
                                have NB399_369 := n13_
                                have NB375_399 := n14_
                                have NB399_375 := n15_
                                have NB381_399 := n16_
                                have NB399_381 := n17_
                                have NB387_399 := n18_
                                have NB399_387 := n19_
                                have NB393_399 := n20_
                                have NB399_393 := n21_
                                clear n0_ n1_ n2_ n3_ n4_ n5_ n6_ n7_ n8_ n9_ n10_ n11_ n12_ n13_ n14_ n15_ n16_ n17_ n18_ n19_ n20_ n21_
                                clear hb hbox hg
                                refine hK.out _ _ ⟨(blk_cell BK369.out 0).trans rfl, (blk_cell BK369.out 1).trans rfl, (blk_cell BK369.out 2).trans rfl, (blk_cell BK369.out 3).trans rfl, (blk_cell BK381.out 0).trans rfl, (blk_cell BK381.out 1).trans rfl, (blk_cell BK381.out 2).trans rfl, (blk_cell BK381.out 3).trans rfl⟩ (fun hHeld => ?_)
                                clear hK K
                                refine norm_ (a' := ?_) ?_ ?_
                                rotate_left
                                · show Act.put _ (some 21) _ = _
                                  simp only [Act.put, z1, z2, z3, i64_w, i32_w]
                                  rfl
                                exact norm_ (by first | (simp only [putAll, Act.put, z1, z2, z3]; done) | (simp only [putAll, Act.put, z1, z2, z3]; rfl)) (hJ5 (gb399) _ ⟨hHeld, (bp BK359.out), (bp BK369.out), (bp BK375.out), (bp BK381.out), (bp BK387.out), (bp BK393.out), (bp BK399.out), GW399.out, GE399.out, NB359_399.out, NB399_359.out, NB369_399.out, NB399_369.out, NB375_399.out, NB399_375.out, NB381_399.out, NB399_381.out, NB387_399.out, NB399_387.out, NB393_399.out, NB399_393.out, hb_⟩)
                            · skip
                              rintro gb399 w69 ⟨hS_, h0_, h1_, h2_, h3_, h4_, h5_, h6_, h7_, h8_, h9_, h10_, h11_, h12_, h13_, h14_, h15_, h16_, h17_, h18_, h19_, h20_, h21_⟩
                              have n0_ : Aside0 (w69.heap[gb359]? = some (.cells #[.int .u32 a0_0, .int .u32 a0_1, .int .u32 a0_2, .int .i32 a0_3, .int .i32 a0_4, .int .i32 a0_5] 39 (0, 0))) := ⟨h0_⟩
                              have n1_ : Aside0 (w69.heap[gb369]? = some (.cells #[.int .i64 t364, .int .i64 t365, .int .i64 t366, .int .i64 t367] 25 (0, 0))) := ⟨h1_⟩
                              have n2_ : Aside0 (w69.heap[gb375]? = some (.cells #[.int .i64 t370, .int .i64 t371, .int .i64 t372, .int .i64 t373] 25 (0, 0))) := ⟨h2_⟩
                              have n3_ : Aside0 (w69.heap[gb381]? = some (.cells #[.int .i64 t376, .int .i64 t377, .int .i64 t378, .int .i64 t379] 25 (0, 0))) := ⟨h3_⟩
                              have n4_ : Aside0 (w69.heap[gb387]? = some (.cells #[.int .i64 t382, .int .i64 t383, .int .i64 t384, .int .i64 t385] 25 (0, 0))) := ⟨h4_⟩
                              have n5_ : Aside0 (w69.heap[gb393]? = some (.cells #[.int .i64 t388, .int .i64 t389, .int .i64 t390, .int .i64 t391] 25 (0, 0))) := ⟨h5_⟩
                              have n6_ : Aside0 (w69.heap[gb399]? = some (.cells #[.int .i64 0, .int .i64 0] 34 (0, 0))) := ⟨h6_⟩
                              have n7_ : Aside0 (w.heap.size ≤ gb399) := ⟨h7_⟩
                              have n8_ : Aside0 (w.heap.size ≤ gb399) := ⟨h8_⟩
                              have n9_ : Aside0 (gb359 ≠ gb399) := ⟨h9_⟩
                              have n10_ : Aside0 (gb399 ≠ gb359) := ⟨h10_⟩
                              have n11_ : Aside0 (gb369 ≠ gb399) := ⟨h11_⟩
                              have n12_ : Aside0 (gb399 ≠ gb369) := ⟨h12_⟩
                              have n13_ : Aside0 (gb375 ≠ gb399) := ⟨h13_⟩
                              have n14_ : Aside0 (gb399 ≠ gb375) := ⟨h14_⟩
                              have n15_ : Aside0 (gb381 ≠ gb399) := ⟨h15_⟩
                              have n16_ : Aside0 (gb399 ≠ gb381) := ⟨h16_⟩
                              have n17_ : Aside0 (gb387 ≠ gb399) := ⟨h17_⟩
                              have n18_ : Aside0 (gb399 ≠ gb387) := ⟨h18_⟩
                              have n19_ : Aside0 (gb393 ≠ gb399) := ⟨h19_⟩
                              have n20_ : Aside0 (gb399 ≠ gb393) := ⟨h20_⟩
                              have n21_ : Aside0 (Below w.heap.size w w69) := ⟨h21_⟩
                              clear BK359
                              clear BK369
                              clear BK375
                              clear BK381
                              clear BK387
                              clear BK393
                              clear HB
                              clear h0_ h1_ h2_ h3_ h4_ h5_ h6_ h7_ h8_ h9_ h10_ h11_ h12_ h13_ h14_ h15_ h16_ h17_ h18_ h19_ h20_ h21_
                              have BK359 := n0_
                              have BK369 := n1_
                              have BK375 := n2_
                              have BK381 := n3_
                              have BK387 := n4_
                              have BK393 := n5_
                              have BK399 := n6_
                              have GW399 := n7_
                              have GE399 := n8_
                              have NB359_399 := n9_
                              have NB399_359 := n10_
                              have NB369_399 := n11_
                              have NB399_369 := n12_
                              have NB375_399 := n13_
                              have NB399_375 := n14_
                              have NB381_399 := n15_
                              have NB399_381 := n16_
                              have NB387_399 := n17_
                              have NB399_387 := n18_
                              have NB393_399 := n19_
                              have NB399_393 := n20_
                              have HB := n21_
                              clear n0_ n1_ n2_ n3_ n4_ n5_ n6_ n7_ n8_ n9_ n10_ n11_ n12_ n13_ n14_ n15_ n16_ n17_ n18_ n19_ n20_ n21_
                              have hHeld : w69.cell? ⟨gb369, 0, none⟩ = some (.int .i64 t364) ∧ w69.cell? ⟨gb369, 1, none⟩ = some (.int .i64 t365) ∧ w69.cell? ⟨gb369, 2, none⟩ = some (.int .i64 t366) ∧ w69.cell? ⟨gb369, 3, none⟩ = some (.int .i64 t367) ∧ w69.cell? ⟨gb381, 0, none⟩ = some (.int .i64 t376) ∧ w69.cell? ⟨gb381, 1, none⟩ = some (.int .i64 t377) ∧ w69.cell? ⟨gb381, 2, none⟩ = some (.int .i64 t378) ∧ w69.cell? ⟨gb381, 3, none⟩ = some (.int .i64 t379) := hS_
                              refine norm_ (a' := ?_) ?_ ?_
                              rotate_left
                              · simp only [putAll, Act.put, z1, z2, z3]
                                rfl
                              refine two_ (i := 1) (j := 4) (Ni := some 100) (Nj := some 20) b9_9 b9_10 rfl rfl rfl rfl (two_of HT_.out (by kernel_rfl)) (by decide) (by decide) (fun K hK => ?_) (fun K hK => ?_)
                              · skip
                                refine goes_ Try.func17 (by kernel_rfl) rfl #[.agg #[.int .i64 t364, .int .i64 t365, .int .i64 t366, .int .i64 t367]] (by rfl) rfl rfl sl_ ?_
                                with_reducible refine (sample_Bounds.calls t364 t365 t366 t367 t394 t395 _ A64.out).mono ?_
                                rintro e w70 ⟨rfl, hb⟩
                                refine ⟨_, rfl, ?_⟩
                                have n0_ := Aside0.mk (bb BK359.out hb)
                                have n1_ := Aside0.mk (bb BK369.out hb)
                                have n2_ := Aside0.mk (bb BK375.out hb)
                                have n3_ := Aside0.mk (bb BK381.out hb)
                                have n4_ := Aside0.mk (bb BK387.out hb)
                                have n5_ := Aside0.mk (bb BK393.out hb)
                                have n6_ := Aside0.mk (bb BK399.out hb)
                                have n7_ := Aside0.mk (below_step hb_ hb)
                                clear BK359
                                clear BK369
                                clear BK375
                                clear BK381
                                clear BK387
                                clear BK393
                                clear BK399
                                clear HB
                                have BK359 := n0_
                                have BK369 := n1_
                                have BK375 := n2_
                                have BK381 := n3_
                                have BK387 := n4_
                                have BK393 := n5_
                                have BK399 := n6_
                                have HB := n7_
                                clear n0_ n1_ n2_ n3_ n4_ n5_ n6_ n7_
                                (try clear hb)
                                (try clear hb2)
                                (try clear hk)
                                (try clear hi)
                                refine hK.out _ _ ⟨(blk_cell BK369.out 0).trans rfl, (blk_cell BK369.out 1).trans rfl, (blk_cell BK369.out 2).trans rfl, (blk_cell BK369.out 3).trans rfl, (blk_cell BK381.out 0).trans rfl, (blk_cell BK381.out 1).trans rfl, (blk_cell BK381.out 2).trans rfl, (blk_cell BK381.out 3).trans rfl⟩ (fun hHeld => ?_)
                                clear hK K
                                refine norm_ (a' := ?_) ?_ ?_
                                rotate_left
                                · show Act.put _ (some 100) _ = _
                                  simp only [Act.put, z1, z2, z3, i64_w, i32_w]
                                  rfl
                                exact norm_ (by first | (simp only [putAll, Act.put, z1, z2, z3]; done) | (simp only [putAll, Act.put, z1, z2, z3]; rfl)) (hJ1_5 (gb399) _ ⟨hHeld, (bp BK359.out), (bp BK369.out), (bp BK375.out), (bp BK381.out), (bp BK387.out), (bp BK393.out), (bp BK399.out), GW399.out, GE399.out, NB359_399.out, NB399_359.out, NB369_399.out, NB399_369.out, NB375_399.out, NB399_375.out, NB381_399.out, NB399_381.out, NB387_399.out, NB399_387.out, NB393_399.out, NB399_393.out, hb_⟩)
                              · skip
                                refine box_step ?hg (N := 20) ?hd (cs := #[.int .i64 0, .int .i64 0]) (t := 34) ?hr ?_; (case hd => rfl); (case hg => rfl); (case hr => first | (go_simp; done) | (go_simp; rfl))
                                intro gb398 hg w70 hbox hb
                                have n0_ := Aside0.mk (bb BK359.out hb)
                                have n1_ := Aside0.mk (bb BK369.out hb)
                                have n2_ := Aside0.mk (bb BK375.out hb)
                                have n3_ := Aside0.mk (bb BK381.out hb)
                                have n4_ := Aside0.mk (bb BK387.out hb)
                                have n5_ := Aside0.mk (bb BK393.out hb)
                                have n6_ := Aside0.mk (bb BK399.out hb)
                                have n7_ := Aside0.mk (below_step hb_ hb)
                                have n8_ := Aside0.mk (hbox)
                                have n9_ := Aside0.mk ((by rw [hg]; exact (below_size hb_) : w.heap.size ≤ gb398))
                                have n10_ := Aside0.mk ((by rw [hg]; exact (below_size hb_) : w.heap.size ≤ gb398))
                                have n11_ := Aside0.mk ((by rw [hg]; exact Nat.ne_of_lt (bl BK359.out) : gb359 ≠ gb398))
                                have n12_ := Aside0.mk ((by rw [hg]; exact Nat.ne_of_gt (bl BK359.out) : gb398 ≠ gb359))
                                have n13_ := Aside0.mk ((by rw [hg]; exact Nat.ne_of_lt (bl BK369.out) : gb369 ≠ gb398))
                                have n14_ := Aside0.mk ((by rw [hg]; exact Nat.ne_of_gt (bl BK369.out) : gb398 ≠ gb369))
                                have n15_ := Aside0.mk ((by rw [hg]; exact Nat.ne_of_lt (bl BK375.out) : gb375 ≠ gb398))
                                have n16_ := Aside0.mk ((by rw [hg]; exact Nat.ne_of_gt (bl BK375.out) : gb398 ≠ gb375))
                                have n17_ := Aside0.mk ((by rw [hg]; exact Nat.ne_of_lt (bl BK381.out) : gb381 ≠ gb398))
                                have n18_ := Aside0.mk ((by rw [hg]; exact Nat.ne_of_gt (bl BK381.out) : gb398 ≠ gb381))
                                have n19_ := Aside0.mk ((by rw [hg]; exact Nat.ne_of_lt (bl BK387.out) : gb387 ≠ gb398))
                                have n20_ := Aside0.mk ((by rw [hg]; exact Nat.ne_of_gt (bl BK387.out) : gb398 ≠ gb387))
                                have n21_ := Aside0.mk ((by rw [hg]; exact Nat.ne_of_lt (bl BK393.out) : gb393 ≠ gb398))
                                have n22_ := Aside0.mk ((by rw [hg]; exact Nat.ne_of_gt (bl BK393.out) : gb398 ≠ gb393))
                                have n23_ := Aside0.mk ((by rw [hg]; exact Nat.ne_of_lt (bl BK399.out) : gb399 ≠ gb398))
                                have n24_ := Aside0.mk ((by rw [hg]; exact Nat.ne_of_gt (bl BK399.out) : gb398 ≠ gb399))
                                clear BK359
                                clear BK369
                                clear BK375
                                clear BK381
                                clear BK387
                                clear BK393
                                clear BK399
                                clear HB
                                have BK359 := n0_
                                have BK369 := n1_
                                have BK375 := n2_
                                have BK381 := n3_
                                have BK387 := n4_
                                have BK393 := n5_
                                have BK399 := n6_
                                have HB := n7_
                                have BK398 := n8_
                                have GW398 := n9_
                                have GE398 := n10_
                                have NB359_398 := n11_
                                have NB398_359 := n12_
                                have NB369_398 := n13_
                                have NB398_369 := n14_
                                have NB375_398 := n15_
                                have NB398_375 := n16_
                                have NB381_398 := n17_
                                have NB398_381 := n18_
                                have NB387_398 := n19_
                                have NB398_387 := n20_
                                have NB393_398 := n21_
                                have NB398_393 := n22_
                                have NB399_398 := n23_
                                have NB398_399 := n24_
                                clear n0_ n1_ n2_ n3_ n4_ n5_ n6_ n7_ n8_ n9_ n10_ n11_ n12_ n13_ n14_ n15_ n16_ n17_ n18_ n19_ n20_ n21_ n22_ n23_ n24_
                                clear hb hbox hg
                                refine hK.out _ _ ⟨(blk_cell BK369.out 0).trans rfl, (blk_cell BK369.out 1).trans rfl, (blk_cell BK369.out 2).trans rfl, (blk_cell BK369.out 3).trans rfl, (blk_cell BK381.out 0).trans rfl, (blk_cell BK381.out 1).trans rfl, (blk_cell BK381.out 2).trans rfl, (blk_cell BK381.out 3).trans rfl⟩ (fun hHeld => ?_)
                                clear hK K
                                refine norm_ (a' := ?_) ?_ ?_
                                rotate_left
                                · show Act.put _ (some 20) _ = _
                                  simp only [Act.put, z1, z2, z3, i64_w, i32_w]
                                  rfl
                                exact norm_ (by first | (simp only [putAll, Act.put, z1, z2, z3]; done) | (simp only [putAll, Act.put, z1, z2, z3]; rfl)) (hJ4_5 (gb398, gb399) _ ⟨hHeld, (bp BK359.out), (bp BK369.out), (bp BK375.out), (bp BK381.out), (bp BK387.out), (bp BK393.out), (bp BK398.out), (bp BK399.out), GW398.out, GE398.out, NB359_398.out, NB398_359.out, NB369_398.out, NB398_369.out, NB375_398.out, NB398_375.out, NB381_398.out, NB398_381.out, NB387_398.out, NB398_387.out, NB393_398.out, NB398_393.out, NB399_398.out, NB398_399.out, GW399.out, GE399.out, NB359_399.out, NB399_359.out, NB369_399.out, NB399_369.out, NB375_399.out, NB399_375.out, NB381_399.out, NB399_381.out, NB387_399.out, NB399_387.out, NB393_399.out, NB399_393.out, hb_⟩)
                          · skip
                            rintro gb398 w69 ⟨hS_, h0_, h1_, h2_, h3_, h4_, h5_, h6_, h7_, h8_, h9_, h10_, h11_, h12_, h13_, h14_, h15_, h16_, h17_, h18_, h19_, h20_, h21_⟩
                            have n0_ : Aside0 (w69.heap[gb359]? = some (.cells #[.int .u32 a0_0, .int .u32 a0_1, .int .u32 a0_2, .int .i32 a0_3, .int .i32 a0_4, .int .i32 a0_5] 39 (0, 0))) := ⟨h0_⟩
                            have n1_ : Aside0 (w69.heap[gb369]? = some (.cells #[.int .i64 t364, .int .i64 t365, .int .i64 t366, .int .i64 t367] 25 (0, 0))) := ⟨h1_⟩
                            have n2_ : Aside0 (w69.heap[gb375]? = some (.cells #[.int .i64 t370, .int .i64 t371, .int .i64 t372, .int .i64 t373] 25 (0, 0))) := ⟨h2_⟩
                            have n3_ : Aside0 (w69.heap[gb381]? = some (.cells #[.int .i64 t376, .int .i64 t377, .int .i64 t378, .int .i64 t379] 25 (0, 0))) := ⟨h3_⟩
                            have n4_ : Aside0 (w69.heap[gb387]? = some (.cells #[.int .i64 t382, .int .i64 t383, .int .i64 t384, .int .i64 t385] 25 (0, 0))) := ⟨h4_⟩
                            have n5_ : Aside0 (w69.heap[gb393]? = some (.cells #[.int .i64 t388, .int .i64 t389, .int .i64 t390, .int .i64 t391] 25 (0, 0))) := ⟨h5_⟩
                            have n6_ : Aside0 (w69.heap[gb398]? = some (.cells #[.int .i64 0, .int .i64 0] 34 (0, 0))) := ⟨h6_⟩
                            have n7_ : Aside0 (w.heap.size ≤ gb398) := ⟨h7_⟩
                            have n8_ : Aside0 (w.heap.size ≤ gb398) := ⟨h8_⟩
                            have n9_ : Aside0 (gb359 ≠ gb398) := ⟨h9_⟩
                            have n10_ : Aside0 (gb398 ≠ gb359) := ⟨h10_⟩
                            have n11_ : Aside0 (gb369 ≠ gb398) := ⟨h11_⟩
                            have n12_ : Aside0 (gb398 ≠ gb369) := ⟨h12_⟩
                            have n13_ : Aside0 (gb375 ≠ gb398) := ⟨h13_⟩
                            have n14_ : Aside0 (gb398 ≠ gb375) := ⟨h14_⟩
                            have n15_ : Aside0 (gb381 ≠ gb398) := ⟨h15_⟩
                            have n16_ : Aside0 (gb398 ≠ gb381) := ⟨h16_⟩
                            have n17_ : Aside0 (gb387 ≠ gb398) := ⟨h17_⟩
                            have n18_ : Aside0 (gb398 ≠ gb387) := ⟨h18_⟩
                            have n19_ : Aside0 (gb393 ≠ gb398) := ⟨h19_⟩
                            have n20_ : Aside0 (gb398 ≠ gb393) := ⟨h20_⟩
                            have n21_ : Aside0 (Below w.heap.size w w69) := ⟨h21_⟩
                            clear BK359
                            clear BK369
                            clear BK375
                            clear BK381
                            clear BK387
                            clear BK393
                            clear HB
                            clear h0_ h1_ h2_ h3_ h4_ h5_ h6_ h7_ h8_ h9_ h10_ h11_ h12_ h13_ h14_ h15_ h16_ h17_ h18_ h19_ h20_ h21_
                            have BK359 := n0_
                            have BK369 := n1_
                            have BK375 := n2_
                            have BK381 := n3_
                            have BK387 := n4_
                            have BK393 := n5_
                            have BK398 := n6_
                            have GW398 := n7_
                            have GE398 := n8_
                            have NB359_398 := n9_
                            have NB398_359 := n10_
                            have NB369_398 := n11_
                            have NB398_369 := n12_
                            have NB375_398 := n13_
                            have NB398_375 := n14_
                            have NB381_398 := n15_
                            have NB398_381 := n16_
                            have NB387_398 := n17_
                            have NB398_387 := n18_
                            have NB393_398 := n19_
                            have NB398_393 := n20_
                            have HB := n21_
                            clear n0_ n1_ n2_ n3_ n4_ n5_ n6_ n7_ n8_ n9_ n10_ n11_ n12_ n13_ n14_ n15_ n16_ n17_ n18_ n19_ n20_ n21_
                            have hHeld : w69.cell? ⟨gb369, 0, none⟩ = some (.int .i64 t364) ∧ w69.cell? ⟨gb369, 1, none⟩ = some (.int .i64 t365) ∧ w69.cell? ⟨gb369, 2, none⟩ = some (.int .i64 t366) ∧ w69.cell? ⟨gb369, 3, none⟩ = some (.int .i64 t367) ∧ w69.cell? ⟨gb381, 0, none⟩ = some (.int .i64 t376) ∧ w69.cell? ⟨gb381, 1, none⟩ = some (.int .i64 t377) ∧ w69.cell? ⟨gb381, 2, none⟩ = some (.int .i64 t378) ∧ w69.cell? ⟨gb381, 3, none⟩ = some (.int .i64 t379) := hS_
                            refine norm_ (a' := ?_) ?_ ?_
                            rotate_left
                            · simp only [putAll, Act.put, z1, z2, z3]
                              rfl
                            refine two_ (i := 1) (j := 5) (Ni := some 100) (Nj := some 21) b9_8 b9_10 rfl rfl rfl rfl (two_of HT_.out (by kernel_rfl)) (by decide) (by decide) (fun K hK => ?_) (fun K hK => ?_)
                            · skip
                              refine goes_ Try.func17 (by kernel_rfl) rfl #[.agg #[.int .i64 t364, .int .i64 t365, .int .i64 t366, .int .i64 t367]] (by rfl) rfl rfl sl_ ?_
                              with_reducible refine (sample_Bounds.calls t364 t365 t366 t367 t394 t395 _ A64.out).mono ?_
                              rintro e w70 ⟨rfl, hb⟩
                              refine ⟨_, rfl, ?_⟩
                              have n0_ := Aside0.mk (bb BK359.out hb)
                              have n1_ := Aside0.mk (bb BK369.out hb)
                              have n2_ := Aside0.mk (bb BK375.out hb)
                              have n3_ := Aside0.mk (bb BK381.out hb)
                              have n4_ := Aside0.mk (bb BK387.out hb)
                              have n5_ := Aside0.mk (bb BK393.out hb)
                              have n6_ := Aside0.mk (bb BK398.out hb)
                              have n7_ := Aside0.mk (below_step hb_ hb)
                              clear BK359
                              clear BK369
                              clear BK375
                              clear BK381
                              clear BK387
                              clear BK393
                              clear BK398
                              clear HB
                              have BK359 := n0_
                              have BK369 := n1_
                              have BK375 := n2_
                              have BK381 := n3_
                              have BK387 := n4_
                              have BK393 := n5_
                              have BK398 := n6_
                              have HB := n7_
                              clear n0_ n1_ n2_ n3_ n4_ n5_ n6_ n7_
                              (try clear hb)
                              (try clear hb2)
                              (try clear hk)
                              (try clear hi)
                              refine hK.out _ _ ⟨(blk_cell BK369.out 0).trans rfl, (blk_cell BK369.out 1).trans rfl, (blk_cell BK369.out 2).trans rfl, (blk_cell BK369.out 3).trans rfl, (blk_cell BK381.out 0).trans rfl, (blk_cell BK381.out 1).trans rfl, (blk_cell BK381.out 2).trans rfl, (blk_cell BK381.out 3).trans rfl⟩ (fun hHeld => ?_)
                              clear hK K
                              refine norm_ (a' := ?_) ?_ ?_
                              rotate_left
                              · show Act.put _ (some 100) _ = _
                                simp only [Act.put, z1, z2, z3, i64_w, i32_w]
                                rfl
                              exact norm_ (by first | (simp only [putAll, Act.put, z1, z2, z3]; done) | (simp only [putAll, Act.put, z1, z2, z3]; rfl)) (hJ1_4 (gb398) _ ⟨hHeld, (bp BK359.out), (bp BK369.out), (bp BK375.out), (bp BK381.out), (bp BK387.out), (bp BK393.out), (bp BK398.out), GW398.out, GE398.out, NB359_398.out, NB398_359.out, NB369_398.out, NB398_369.out, NB375_398.out, NB398_375.out, NB381_398.out, NB398_381.out, NB387_398.out, NB398_387.out, NB393_398.out, NB398_393.out, hb_⟩)
                            · skip
                              refine box_step ?hg (N := 21) ?hd (cs := #[.int .i64 0, .int .i64 0]) (t := 34) ?hr ?_; (case hd => rfl); (case hg => rfl); (case hr => first | (go_simp; done) | (go_simp; rfl))
                              intro gb399 hg w70 hbox hb
                              have n0_ := Aside0.mk (bb BK359.out hb)
                              have n1_ := Aside0.mk (bb BK369.out hb)
                              have n2_ := Aside0.mk (bb BK375.out hb)
                              have n3_ := Aside0.mk (bb BK381.out hb)
                              have n4_ := Aside0.mk (bb BK387.out hb)
                              have n5_ := Aside0.mk (bb BK393.out hb)
                              have n6_ := Aside0.mk (bb BK398.out hb)
                              have n7_ := Aside0.mk (below_step hb_ hb)
                              have n8_ := Aside0.mk (hbox)
                              have n9_ := Aside0.mk ((by rw [hg]; exact (below_size hb_) : w.heap.size ≤ gb399))
                              have n10_ := Aside0.mk ((by rw [hg]; exact (below_size hb_) : w.heap.size ≤ gb399))
                              have n11_ := Aside0.mk ((by rw [hg]; exact Nat.ne_of_lt (bl BK359.out) : gb359 ≠ gb399))
                              have n12_ := Aside0.mk ((by rw [hg]; exact Nat.ne_of_gt (bl BK359.out) : gb399 ≠ gb359))
                              have n13_ := Aside0.mk ((by rw [hg]; exact Nat.ne_of_lt (bl BK369.out) : gb369 ≠ gb399))
                              have n14_ := Aside0.mk ((by rw [hg]; exact Nat.ne_of_gt (bl BK369.out) : gb399 ≠ gb369))
                              have n15_ := Aside0.mk ((by rw [hg]; exact Nat.ne_of_lt (bl BK375.out) : gb375 ≠ gb399))
                              have n16_ := Aside0.mk ((by rw [hg]; exact Nat.ne_of_gt (bl BK375.out) : gb399 ≠ gb375))
                              have n17_ := Aside0.mk ((by rw [hg]; exact Nat.ne_of_lt (bl BK381.out) : gb381 ≠ gb399))
                              have n18_ := Aside0.mk ((by rw [hg]; exact Nat.ne_of_gt (bl BK381.out) : gb399 ≠ gb381))
                              have n19_ := Aside0.mk ((by rw [hg]; exact Nat.ne_of_lt (bl BK387.out) : gb387 ≠ gb399))
                              have n20_ := Aside0.mk ((by rw [hg]; exact Nat.ne_of_gt (bl BK387.out) : gb399 ≠ gb387))
                              have n21_ := Aside0.mk ((by rw [hg]; exact Nat.ne_of_lt (bl BK393.out) : gb393 ≠ gb399))
                              have n22_ := Aside0.mk ((by rw [hg]; exact Nat.ne_of_gt (bl BK393.out) : gb399 ≠ gb393))
                              have n23_ := Aside0.mk ((by rw [hg]; exact Nat.ne_of_lt (bl BK398.out) : gb398 ≠ gb399))
                              have n24_ := Aside0.mk ((by rw [hg]; exact Nat.ne_of_gt (bl BK398.out) : gb399 ≠ gb398))
                              clear BK359
                              clear BK369
                              clear BK375
                              clear BK381
                              clear BK387
                              clear BK393
                              clear BK398
                              clear HB
                              have BK359 := n0_
                              have BK369 := n1_
                              have BK375 := n2_
                              have BK381 := n3_
                              have BK387 := n4_
                              have BK393 := n5_
                              have BK398 := n6_
                              have HB := n7_
                              have BK399 := n8_
                              have GW399 := n9_
                              have GE399 := n10_
                              have NB359_399 := n11_
                              have NB399_359 := n12_
                              have NB369_399 := n13_
                              have NB399_369 := n14_
                              have NB375_399 := n15_
                              have NB399_375 := n16_
                              have NB381_399 := n17_
                              have NB399_381 := n18_
                              have NB387_399 := n19_
                              have NB399_387 := n20_
                              have NB393_399 := n21_
                              have NB399_393 := n22_
                              have NB398_399 := n23_
                              have NB399_398 := n24_
                              clear n0_ n1_ n2_ n3_ n4_ n5_ n6_ n7_ n8_ n9_ n10_ n11_ n12_ n13_ n14_ n15_ n16_ n17_ n18_ n19_ n20_ n21_ n22_ n23_ n24_
                              clear hb hbox hg
                              refine hK.out _ _ ⟨(blk_cell BK369.out 0).trans rfl, (blk_cell BK369.out 1).trans rfl, (blk_cell BK369.out 2).trans rfl, (blk_cell BK369.out 3).trans rfl, (blk_cell BK381.out 0).trans rfl, (blk_cell BK381.out 1).trans rfl, (blk_cell BK381.out 2).trans rfl, (blk_cell BK381.out 3).trans rfl⟩ (fun hHeld => ?_)
                              clear hK K
                              refine norm_ (a' := ?_) ?_ ?_
                              rotate_left
                              · show Act.put _ (some 21) _ = _
                                simp only [Act.put, z1, z2, z3, i64_w, i32_w]
                                rfl
                              exact norm_ (by first | (simp only [putAll, Act.put, z1, z2, z3]; done) | (simp only [putAll, Act.put, z1, z2, z3]; rfl)) (hJ4_5 (gb398, gb399) _ ⟨hHeld, (bp BK359.out), (bp BK369.out), (bp BK375.out), (bp BK381.out), (bp BK387.out), (bp BK393.out), (bp BK398.out), (bp BK399.out), GW398.out, GE398.out, NB359_398.out, NB398_359.out, NB369_398.out, NB398_369.out, NB375_398.out, NB398_375.out, NB381_398.out, NB398_381.out, NB387_398.out, NB398_387.out, NB393_398.out, NB398_393.out, NB399_398.out, NB398_399.out, GW399.out, GE399.out, NB359_399.out, NB399_359.out, NB369_399.out, NB399_369.out, NB375_399.out, NB399_375.out, NB381_399.out, NB399_381.out, NB387_399.out, NB399_387.out, NB393_399.out, NB399_393.out, hb_⟩)
                        · skip
                          rintro _ w69 ⟨hS_, h0_, h1_, h2_, h3_, h4_, h5_, h6_⟩
                          have n0_ : Aside0 (w69.heap[gb359]? = some (.cells #[.int .u32 a0_0, .int .u32 a0_1, .int .u32 a0_2, .int .i32 a0_3, .int .i32 a0_4, .int .i32 a0_5] 39 (0, 0))) := ⟨h0_⟩
                          have n1_ : Aside0 (w69.heap[gb369]? = some (.cells #[.int .i64 t364, .int .i64 t365, .int .i64 t366, .int .i64 t367] 25 (0, 0))) := ⟨h1_⟩
                          have n2_ : Aside0 (w69.heap[gb375]? = some (.cells #[.int .i64 t370, .int .i64 t371, .int .i64 t372, .int .i64 t373] 25 (0, 0))) := ⟨h2_⟩
                          have n3_ : Aside0 (w69.heap[gb381]? = some (.cells #[.int .i64 t376, .int .i64 t377, .int .i64 t378, .int .i64 t379] 25 (0, 0))) := ⟨h3_⟩
                          have n4_ : Aside0 (w69.heap[gb387]? = some (.cells #[.int .i64 t382, .int .i64 t383, .int .i64 t384, .int .i64 t385] 25 (0, 0))) := ⟨h4_⟩
                          have n5_ : Aside0 (w69.heap[gb393]? = some (.cells #[.int .i64 t388, .int .i64 t389, .int .i64 t390, .int .i64 t391] 25 (0, 0))) := ⟨h5_⟩
                          have n6_ : Aside0 (Below w.heap.size w w69) := ⟨h6_⟩
                          clear BK359
                          clear BK369
                          clear BK375
                          clear BK381
                          clear BK387
                          clear BK393
                          clear HB
                          clear h0_ h1_ h2_ h3_ h4_ h5_ h6_
                          have BK359 := n0_
                          have BK369 := n1_
                          have BK375 := n2_
                          have BK381 := n3_
                          have BK387 := n4_
                          have BK393 := n5_
                          have HB := n6_
                          clear n0_ n1_ n2_ n3_ n4_ n5_ n6_
                          have hHeld : w69.cell? ⟨gb369, 0, none⟩ = some (.int .i64 t364) ∧ w69.cell? ⟨gb369, 1, none⟩ = some (.int .i64 t365) ∧ w69.cell? ⟨gb369, 2, none⟩ = some (.int .i64 t366) ∧ w69.cell? ⟨gb369, 3, none⟩ = some (.int .i64 t367) ∧ w69.cell? ⟨gb381, 0, none⟩ = some (.int .i64 t376) ∧ w69.cell? ⟨gb381, 1, none⟩ = some (.int .i64 t377) ∧ w69.cell? ⟨gb381, 2, none⟩ = some (.int .i64 t378) ∧ w69.cell? ⟨gb381, 3, none⟩ = some (.int .i64 t379) := hS_
                          refine norm_ (a' := ?_) ?_ ?_
                          rotate_left
                          · simp only [putAll, Act.put, z1, z2, z3]
                            rfl
                          refine three_ (i := 3) (j := 4) (k := 5) (Ni := some 102) (Nj := some 20) (Nk := some 21) b9_7 b9_8 b9_9 rfl rfl rfl rfl rfl rfl (three_of HT_.out (by kernel_rfl)) (by decide) (by decide) (by decide) (fun K hK => ?_) (fun K hK => ?_) (fun K hK => ?_)
                          · skip
                            refine goes_ Try.func17 (by kernel_rfl) rfl #[.agg #[.int .i64 t376, .int .i64 t377, .int .i64 t378, .int .i64 t379]] (by rfl) rfl rfl sl_ ?_
                            with_reducible refine (sample_Bounds.calls t376 t377 t378 t379 t396 t397 _ A65.out).mono ?_
                            rintro e w70 ⟨rfl, hb⟩
                            refine ⟨_, rfl, ?_⟩
                            have n0_ := Aside0.mk (bb BK359.out hb)
                            have n1_ := Aside0.mk (bb BK369.out hb)
                            have n2_ := Aside0.mk (bb BK375.out hb)
                            have n3_ := Aside0.mk (bb BK381.out hb)
                            have n4_ := Aside0.mk (bb BK387.out hb)
                            have n5_ := Aside0.mk (bb BK393.out hb)
                            have n6_ := Aside0.mk (below_step hb_ hb)
                            clear BK359
                            clear BK369
                            clear BK375
                            clear BK381
                            clear BK387
                            clear BK393
                            clear HB
                            have BK359 := n0_
                            have BK369 := n1_
                            have BK375 := n2_
                            have BK381 := n3_
                            have BK387 := n4_
                            have BK393 := n5_
                            have HB := n6_
                            clear n0_ n1_ n2_ n3_ n4_ n5_ n6_
                            (try clear hb)
                            (try clear hb2)
                            (try clear hk)
                            (try clear hi)
                            refine hK.out _ _ ⟨(blk_cell BK369.out 0).trans rfl, (blk_cell BK369.out 1).trans rfl, (blk_cell BK369.out 2).trans rfl, (blk_cell BK369.out 3).trans rfl, (blk_cell BK381.out 0).trans rfl, (blk_cell BK381.out 1).trans rfl, (blk_cell BK381.out 2).trans rfl, (blk_cell BK381.out 3).trans rfl⟩ (fun hHeld => ?_)
                            clear hK K
                            refine norm_ (a' := ?_) ?_ ?_
                            rotate_left
                            · show Act.put _ (some 102) _ = _
                              simp only [Act.put, z1, z2, z3, i64_w, i32_w]
                              rfl
                            exact norm_ (by first | (simp only [putAll, Act.put, z1, z2, z3]; done) | (simp only [putAll, Act.put, z1, z2, z3]; rfl)) (hJ1_3 () _ ⟨hHeld, (bp BK359.out), (bp BK369.out), (bp BK375.out), (bp BK381.out), (bp BK387.out), (bp BK393.out), hb_⟩)
                          · skip
                            refine box_step ?hg (N := 20) ?hd (cs := #[.int .i64 0, .int .i64 0]) (t := 34) ?hr ?_; (case hd => rfl); (case hg => rfl); (case hr => first | (go_simp; done) | (go_simp; rfl))
                            intro gb398 hg w70 hbox hb
                            have n0_ := Aside0.mk (bb BK359.out hb)
                            have n1_ := Aside0.mk (bb BK369.out hb)
                            have n2_ := Aside0.mk (bb BK375.out hb)
                            have n3_ := Aside0.mk (bb BK381.out hb)
                            have n4_ := Aside0.mk (bb BK387.out hb)
                            have n5_ := Aside0.mk (bb BK393.out hb)
                            have n6_ := Aside0.mk (below_step hb_ hb)
                            have n7_ := Aside0.mk (hbox)
                            have n8_ := Aside0.mk ((by rw [hg]; exact (below_size hb_) : w.heap.size ≤ gb398))
                            have n9_ := Aside0.mk ((by rw [hg]; exact (below_size hb_) : w.heap.size ≤ gb398))
                            have n10_ := Aside0.mk ((by rw [hg]; exact Nat.ne_of_lt (bl BK359.out) : gb359 ≠ gb398))
                            have n11_ := Aside0.mk ((by rw [hg]; exact Nat.ne_of_gt (bl BK359.out) : gb398 ≠ gb359))
                            have n12_ := Aside0.mk ((by rw [hg]; exact Nat.ne_of_lt (bl BK369.out) : gb369 ≠ gb398))
                            have n13_ := Aside0.mk ((by rw [hg]; exact Nat.ne_of_gt (bl BK369.out) : gb398 ≠ gb369))
                            have n14_ := Aside0.mk ((by rw [hg]; exact Nat.ne_of_lt (bl BK375.out) : gb375 ≠ gb398))
                            have n15_ := Aside0.mk ((by rw [hg]; exact Nat.ne_of_gt (bl BK375.out) : gb398 ≠ gb375))
                            have n16_ := Aside0.mk ((by rw [hg]; exact Nat.ne_of_lt (bl BK381.out) : gb381 ≠ gb398))
                            have n17_ := Aside0.mk ((by rw [hg]; exact Nat.ne_of_gt (bl BK381.out) : gb398 ≠ gb381))
                            have n18_ := Aside0.mk ((by rw [hg]; exact Nat.ne_of_lt (bl BK387.out) : gb387 ≠ gb398))
                            have n19_ := Aside0.mk ((by rw [hg]; exact Nat.ne_of_gt (bl BK387.out) : gb398 ≠ gb387))
                            have n20_ := Aside0.mk ((by rw [hg]; exact Nat.ne_of_lt (bl BK393.out) : gb393 ≠ gb398))
                            have n21_ := Aside0.mk ((by rw [hg]; exact Nat.ne_of_gt (bl BK393.out) : gb398 ≠ gb393))
                            clear BK359
                            clear BK369
                            clear BK375
                            clear BK381
                            clear BK387
                            clear BK393
                            clear HB
                            have BK359 := n0_
                            have BK369 := n1_
                            have BK375 := n2_
                            have BK381 := n3_
                            have BK387 := n4_
                            have BK393 := n5_
                            have HB := n6_
                            have BK398 := n7_
                            have GW398 := n8_
                            have GE398 := n9_
                            have NB359_398 := n10_
                            have NB398_359 := n11_
                            have NB369_398 := n12_
                            have NB398_369 := n13_
                            have NB375_398 := n14_
                            have NB398_375 := n15_
                            have NB381_398 := n16_
                            have NB398_381 := n17_
                            have NB387_398 := n18_
                            have NB398_387 := n19_
                            have NB393_398 := n20_
                            have NB398_393 := n21_
                            clear n0_ n1_ n2_ n3_ n4_ n5_ n6_ n7_ n8_ n9_ n10_ n11_ n12_ n13_ n14_ n15_ n16_ n17_ n18_ n19_ n20_ n21_
                            clear hb hbox hg
                            refine hK.out _ _ ⟨(blk_cell BK369.out 0).trans rfl, (blk_cell BK369.out 1).trans rfl, (blk_cell BK369.out 2).trans rfl, (blk_cell BK369.out 3).trans rfl, (blk_cell BK381.out 0).trans rfl, (blk_cell BK381.out 1).trans rfl, (blk_cell BK381.out 2).trans rfl, (blk_cell BK381.out 3).trans rfl⟩ (fun hHeld => ?_)
                            clear hK K
                            refine norm_ (a' := ?_) ?_ ?_
                            rotate_left
                            · show Act.put _ (some 20) _ = _
                              simp only [Act.put, z1, z2, z3, i64_w, i32_w]
                              rfl
                            exact norm_ (by first | (simp only [putAll, Act.put, z1, z2, z3]; done) | (simp only [putAll, Act.put, z1, z2, z3]; rfl)) (hJ1_4 (gb398) _ ⟨hHeld, (bp BK359.out), (bp BK369.out), (bp BK375.out), (bp BK381.out), (bp BK387.out), (bp BK393.out), (bp BK398.out), GW398.out, GE398.out, NB359_398.out, NB398_359.out, NB369_398.out, NB398_369.out, NB375_398.out, NB398_375.out, NB381_398.out, NB398_381.out, NB387_398.out, NB398_387.out, NB393_398.out, NB398_393.out, hb_⟩)
                          · skip
                            refine box_step ?hg (N := 21) ?hd (cs := #[.int .i64 0, .int .i64 0]) (t := 34) ?hr ?_; (case hd => rfl); (case hg => rfl); (case hr => first | (go_simp; done) | (go_simp; rfl))
                            intro gb399 hg w70 hbox hb
                            have n0_ := Aside0.mk (bb BK359.out hb)
                            have n1_ := Aside0.mk (bb BK369.out hb)
                            have n2_ := Aside0.mk (bb BK375.out hb)
                            have n3_ := Aside0.mk (bb BK381.out hb)
                            have n4_ := Aside0.mk (bb BK387.out hb)
                            have n5_ := Aside0.mk (bb BK393.out hb)
                            have n6_ := Aside0.mk (below_step hb_ hb)
                            have n7_ := Aside0.mk (hbox)
                            have n8_ := Aside0.mk ((by rw [hg]; exact (below_size hb_) : w.heap.size ≤ gb399))
                            have n9_ := Aside0.mk ((by rw [hg]; exact (below_size hb_) : w.heap.size ≤ gb399))
                            have n10_ := Aside0.mk ((by rw [hg]; exact Nat.ne_of_lt (bl BK359.out) : gb359 ≠ gb399))
                            have n11_ := Aside0.mk ((by rw [hg]; exact Nat.ne_of_gt (bl BK359.out) : gb399 ≠ gb359))
                            have n12_ := Aside0.mk ((by rw [hg]; exact Nat.ne_of_lt (bl BK369.out) : gb369 ≠ gb399))
                            have n13_ := Aside0.mk ((by rw [hg]; exact Nat.ne_of_gt (bl BK369.out) : gb399 ≠ gb369))
                            have n14_ := Aside0.mk ((by rw [hg]; exact Nat.ne_of_lt (bl BK375.out) : gb375 ≠ gb399))
                            have n15_ := Aside0.mk ((by rw [hg]; exact Nat.ne_of_gt (bl BK375.out) : gb399 ≠ gb375))
                            have n16_ := Aside0.mk ((by rw [hg]; exact Nat.ne_of_lt (bl BK381.out) : gb381 ≠ gb399))
                            have n17_ := Aside0.mk ((by rw [hg]; exact Nat.ne_of_gt (bl BK381.out) : gb399 ≠ gb381))
                            have n18_ := Aside0.mk ((by rw [hg]; exact Nat.ne_of_lt (bl BK387.out) : gb387 ≠ gb399))
                            have n19_ := Aside0.mk ((by rw [hg]; exact Nat.ne_of_gt (bl BK387.out) : gb399 ≠ gb387))
                            have n20_ := Aside0.mk ((by rw [hg]; exact Nat.ne_of_lt (bl BK393.out) : gb393 ≠ gb399))
                            have n21_ := Aside0.mk ((by rw [hg]; exact Nat.ne_of_gt (bl BK393.out) : gb399 ≠ gb393))
                            clear BK359
                            clear BK369
                            clear BK375
                            clear BK381
                            clear BK387
                            clear BK393
                            clear HB
                            have BK359 := n0_
                            have BK369 := n1_
                            have BK375 := n2_
                            have BK381 := n3_
                            have BK387 := n4_
                            have BK393 := n5_
                            have HB := n6_
                            have BK399 := n7_
                            have GW399 := n8_
                            have GE399 := n9_
                            have NB359_399 := n10_
                            have NB399_359 := n11_
                            have NB369_399 := n12_
                            have NB399_369 := n13_
                            have NB375_399 := n14_
                            have NB399_375 := n15_
                            have NB381_399 := n16_
                            have NB399_381 := n17_
                            have NB387_399 := n18_
                            have NB399_387 := n19_
                            have NB393_399 := n20_
                            have NB399_393 := n21_
                            clear n0_ n1_ n2_ n3_ n4_ n5_ n6_ n7_ n8_ n9_ n10_ n11_ n12_ n13_ n14_ n15_ n16_ n17_ n18_ n19_ n20_ n21_
                            clear hb hbox hg
                            refine hK.out _ _ ⟨(blk_cell BK369.out 0).trans rfl, (blk_cell BK369.out 1).trans rfl, (blk_cell BK369.out 2).trans rfl, (blk_cell BK369.out 3).trans rfl, (blk_cell BK381.out 0).trans rfl, (blk_cell BK381.out 1).trans rfl, (blk_cell BK381.out 2).trans rfl, (blk_cell BK381.out 3).trans rfl⟩ (fun hHeld => ?_)
                            clear hK K
                            refine norm_ (a' := ?_) ?_ ?_
                            rotate_left
                            · show Act.put _ (some 21) _ = _
                              simp only [Act.put, z1, z2, z3, i64_w, i32_w]
                              rfl
                            exact norm_ (by first | (simp only [putAll, Act.put, z1, z2, z3]; done) | (simp only [putAll, Act.put, z1, z2, z3]; rfl)) (hJ1_5 (gb399) _ ⟨hHeld, (bp BK359.out), (bp BK369.out), (bp BK375.out), (bp BK381.out), (bp BK387.out), (bp BK393.out), (bp BK399.out), GW399.out, GE399.out, NB359_399.out, NB399_359.out, NB369_399.out, NB399_369.out, NB375_399.out, NB399_375.out, NB381_399.out, NB399_381.out, NB387_399.out, NB399_387.out, NB393_399.out, NB399_393.out, hb_⟩)
                      · skip
                        rintro ⟨gb398, gb399⟩ w70 ⟨hS_, h0_, h1_, h2_, h3_, h4_, h5_, h6_, h7_, h8_, h9_, h10_, h11_, h12_, h13_, h14_, h15_, h16_, h17_, h18_, h19_, h20_, h21_, h22_, h23_, h24_, h25_, h26_, h27_, h28_, h29_, h30_, h31_, h32_, h33_, h34_, h35_, h36_, h37_, h38_⟩
                        have n0_ : Aside0 (w70.heap[gb359]? = some (.cells #[.int .u32 a0_0, .int .u32 a0_1, .int .u32 a0_2, .int .i32 a0_3, .int .i32 a0_4, .int .i32 a0_5] 39 (0, 0))) := ⟨h0_⟩
                        have n1_ : Aside0 (w70.heap[gb369]? = some (.cells #[.int .i64 t364, .int .i64 t365, .int .i64 t366, .int .i64 t367] 25 (0, 0))) := ⟨h1_⟩
                        have n2_ : Aside0 (w70.heap[gb375]? = some (.cells #[.int .i64 t370, .int .i64 t371, .int .i64 t372, .int .i64 t373] 25 (0, 0))) := ⟨h2_⟩
                        have n3_ : Aside0 (w70.heap[gb381]? = some (.cells #[.int .i64 t376, .int .i64 t377, .int .i64 t378, .int .i64 t379] 25 (0, 0))) := ⟨h3_⟩
                        have n4_ : Aside0 (w70.heap[gb387]? = some (.cells #[.int .i64 t382, .int .i64 t383, .int .i64 t384, .int .i64 t385] 25 (0, 0))) := ⟨h4_⟩
                        have n5_ : Aside0 (w70.heap[gb393]? = some (.cells #[.int .i64 t388, .int .i64 t389, .int .i64 t390, .int .i64 t391] 25 (0, 0))) := ⟨h5_⟩
                        have n6_ : Aside0 (w70.heap[gb398]? = some (.cells #[.int .i64 0, .int .i64 0] 34 (0, 0))) := ⟨h6_⟩
                        have n7_ : Aside0 (w70.heap[gb399]? = some (.cells #[.int .i64 0, .int .i64 0] 34 (0, 0))) := ⟨h7_⟩
                        have n8_ : Aside0 (w.heap.size ≤ gb398) := ⟨h8_⟩
                        have n9_ : Aside0 (w.heap.size ≤ gb398) := ⟨h9_⟩
                        have n10_ : Aside0 (gb359 ≠ gb398) := ⟨h10_⟩
                        have n11_ : Aside0 (gb398 ≠ gb359) := ⟨h11_⟩
                        have n12_ : Aside0 (gb369 ≠ gb398) := ⟨h12_⟩
                        have n13_ : Aside0 (gb398 ≠ gb369) := ⟨h13_⟩
                        have n14_ : Aside0 (gb375 ≠ gb398) := ⟨h14_⟩
                        have n15_ : Aside0 (gb398 ≠ gb375) := ⟨h15_⟩
                        have n16_ : Aside0 (gb381 ≠ gb398) := ⟨h16_⟩
                        have n17_ : Aside0 (gb398 ≠ gb381) := ⟨h17_⟩
                        have n18_ : Aside0 (gb387 ≠ gb398) := ⟨h18_⟩
                        have n19_ : Aside0 (gb398 ≠ gb387) := ⟨h19_⟩
                        have n20_ : Aside0 (gb393 ≠ gb398) := ⟨h20_⟩
                        have n21_ : Aside0 (gb398 ≠ gb393) := ⟨h21_⟩
                        have n22_ : Aside0 (gb399 ≠ gb398) := ⟨h22_⟩
                        have n23_ : Aside0 (gb398 ≠ gb399) := ⟨h23_⟩
                        have n24_ : Aside0 (w.heap.size ≤ gb399) := ⟨h24_⟩
                        have n25_ : Aside0 (w.heap.size ≤ gb399) := ⟨h25_⟩
                        have n26_ : Aside0 (gb359 ≠ gb399) := ⟨h26_⟩
                        have n27_ : Aside0 (gb399 ≠ gb359) := ⟨h27_⟩
                        have n28_ : Aside0 (gb369 ≠ gb399) := ⟨h28_⟩
                        have n29_ : Aside0 (gb399 ≠ gb369) := ⟨h29_⟩
                        have n30_ : Aside0 (gb375 ≠ gb399) := ⟨h30_⟩
                        have n31_ : Aside0 (gb399 ≠ gb375) := ⟨h31_⟩
                        have n32_ : Aside0 (gb381 ≠ gb399) := ⟨h32_⟩
                        have n33_ : Aside0 (gb399 ≠ gb381) := ⟨h33_⟩
                        have n34_ : Aside0 (gb387 ≠ gb399) := ⟨h34_⟩
                        have n35_ : Aside0 (gb399 ≠ gb387) := ⟨h35_⟩
                        have n36_ : Aside0 (gb393 ≠ gb399) := ⟨h36_⟩
                        have n37_ : Aside0 (gb399 ≠ gb393) := ⟨h37_⟩
                        have n38_ : Aside0 (Below w.heap.size w w70) := ⟨h38_⟩
                        clear BK359
                        clear BK369
                        clear BK375
                        clear BK381
                        clear BK387
                        clear BK393
                        clear HB
                        clear h0_ h1_ h2_ h3_ h4_ h5_ h6_ h7_ h8_ h9_ h10_ h11_ h12_ h13_ h14_ h15_ h16_ h17_ h18_ h19_ h20_ h21_ h22_ h23_ h24_ h25_ h26_ h27_ h28_ h29_ h30_ h31_ h32_ h33_ h34_ h35_ h36_ h37_ h38_
                        have BK359 := n0_
                        have BK369 := n1_
                        have BK375 := n2_
                        have BK381 := n3_
                        have BK387 := n4_
                        have BK393 := n5_
                        have BK398 := n6_
                        have BK399 := n7_
                        have GW398 := n8_
                        have GE398 := n9_
                        have NB359_398 := n10_
                        have NB398_359 := n11_
                        have NB369_398 := n12_
                        have NB398_369 := n13_
                        have NB375_398 := n14_
                        have NB398_375 := n15_
                        have NB381_398 := n16_
                        have NB398_381 := n17_
                        have NB387_398 := n18_
                        have NB398_387 := n19_
                        have NB393_398 := n20_
                        have NB398_393 := n21_
                        have NB399_398 := n22_
                        have NB398_399 := n23_
                        have GW399 := n24_
                        have GE399 := n25_
                        have NB359_399 := n26_
                        have NB399_359 := n27_
                        have NB369_399 := n28_
                        have NB399_369 := n29_
                        have NB375_399 := n30_
                        have NB399_375 := n31_
                        have NB381_399 := n32_
                        have NB399_381 := n33_
                        have NB387_399 := n34_
                        have NB399_387 := n35_
                        have NB393_399 := n36_
                        have NB399_393 := n37_
                        have HB := n38_
                        clear n0_ n1_ n2_ n3_ n4_ n5_ n6_ n7_ n8_ n9_ n10_ n11_ n12_ n13_ n14_ n15_ n16_ n17_ n18_ n19_ n20_ n21_ n22_ n23_ n24_ n25_ n26_ n27_ n28_ n29_ n30_ n31_ n32_ n33_ n34_ n35_ n36_ n37_ n38_
                        have hHeld : w70.cell? ⟨gb369, 0, none⟩ = some (.int .i64 t364) ∧ w70.cell? ⟨gb369, 1, none⟩ = some (.int .i64 t365) ∧ w70.cell? ⟨gb369, 2, none⟩ = some (.int .i64 t366) ∧ w70.cell? ⟨gb369, 3, none⟩ = some (.int .i64 t367) ∧ w70.cell? ⟨gb381, 0, none⟩ = some (.int .i64 t376) ∧ w70.cell? ⟨gb381, 1, none⟩ = some (.int .i64 t377) ∧ w70.cell? ⟨gb381, 2, none⟩ = some (.int .i64 t378) ∧ w70.cell? ⟨gb381, 3, none⟩ = some (.int .i64 t379) := hS_
                        refine norm_ (a' := ?_) ?_ ?_
                        rotate_left
                        · simp only [putAll, Act.put, z1, z2, z3]
                          rfl
                        refine one_ (i := 1) (N := some 100) b9_6 rfl rfl (one_of HT_.out (by kernel_rfl)) (by decide) (fun K hK => ?_)
                        refine goes_ Try.func17 (by kernel_rfl) rfl #[.agg #[.int .i64 t364, .int .i64 t365, .int .i64 t366, .int .i64 t367]] (by rfl) rfl rfl sl_ ?_
                        with_reducible refine (sample_Bounds.calls t364 t365 t366 t367 t394 t395 _ A64.out).mono ?_
                        rintro e w71 ⟨rfl, hb⟩
                        refine ⟨_, rfl, ?_⟩
                        have n0_ := Aside0.mk (bb BK359.out hb)
                        have n1_ := Aside0.mk (bb BK369.out hb)
                        have n2_ := Aside0.mk (bb BK375.out hb)
                        have n3_ := Aside0.mk (bb BK381.out hb)
                        have n4_ := Aside0.mk (bb BK387.out hb)
                        have n5_ := Aside0.mk (bb BK393.out hb)
                        have n6_ := Aside0.mk (bb BK398.out hb)
                        have n7_ := Aside0.mk (bb BK399.out hb)
                        have n8_ := Aside0.mk (below_step hb_ hb)
                        clear BK359
                        clear BK369
                        clear BK375
                        clear BK381
                        clear BK387
                        clear BK393
                        clear BK398
                        clear BK399
                        clear HB
                        have BK359 := n0_
                        have BK369 := n1_
                        have BK375 := n2_
                        have BK381 := n3_
                        have BK387 := n4_
                        have BK393 := n5_
                        have BK398 := n6_
                        have BK399 := n7_
                        have HB := n8_
                        clear n0_ n1_ n2_ n3_ n4_ n5_ n6_ n7_ n8_
                        (try clear hb)
                        (try clear hb2)
                        (try clear hk)
                        (try clear hi)
                        refine hK.out _ _ ⟨(blk_cell BK369.out 0).trans rfl, (blk_cell BK369.out 1).trans rfl, (blk_cell BK369.out 2).trans rfl, (blk_cell BK369.out 3).trans rfl, (blk_cell BK381.out 0).trans rfl, (blk_cell BK381.out 1).trans rfl, (blk_cell BK381.out 2).trans rfl, (blk_cell BK381.out 3).trans rfl⟩ (fun hHeld => ?_)
                        clear hK K
                        refine norm_ (a' := ?_) ?_ ?_
                        rotate_left
                        · show Act.put _ (some 100) _ = _
                          simp only [Act.put, z1, z2, z3, i64_w, i32_w]
                          rfl
                        exact norm_ (by first | (simp only [putAll, Act.put, z1, z2, z3]; done) | (simp only [putAll, Act.put, z1, z2, z3]; rfl)) (hJ1_4_5 (gb398, gb399) _ ⟨hHeld, (bp BK359.out), (bp BK369.out), (bp BK375.out), (bp BK381.out), (bp BK387.out), (bp BK393.out), (bp BK398.out), (bp BK399.out), GW398.out, GE398.out, NB359_398.out, NB398_359.out, NB369_398.out, NB398_369.out, NB375_398.out, NB398_375.out, NB381_398.out, NB398_381.out, NB387_398.out, NB398_387.out, NB393_398.out, NB398_393.out, NB399_398.out, NB398_399.out, GW399.out, GE399.out, NB359_399.out, NB399_359.out, NB369_399.out, NB399_369.out, NB375_399.out, NB399_375.out, NB381_399.out, NB399_381.out, NB387_399.out, NB399_387.out, NB393_399.out, NB399_393.out, hb_⟩)
                    · skip
                      rintro gb399 w70 ⟨hS_, h0_, h1_, h2_, h3_, h4_, h5_, h6_, h7_, h8_, h9_, h10_, h11_, h12_, h13_, h14_, h15_, h16_, h17_, h18_, h19_, h20_, h21_⟩
                      have n0_ : Aside0 (w70.heap[gb359]? = some (.cells #[.int .u32 a0_0, .int .u32 a0_1, .int .u32 a0_2, .int .i32 a0_3, .int .i32 a0_4, .int .i32 a0_5] 39 (0, 0))) := ⟨h0_⟩
                      have n1_ : Aside0 (w70.heap[gb369]? = some (.cells #[.int .i64 t364, .int .i64 t365, .int .i64 t366, .int .i64 t367] 25 (0, 0))) := ⟨h1_⟩
                      have n2_ : Aside0 (w70.heap[gb375]? = some (.cells #[.int .i64 t370, .int .i64 t371, .int .i64 t372, .int .i64 t373] 25 (0, 0))) := ⟨h2_⟩
                      have n3_ : Aside0 (w70.heap[gb381]? = some (.cells #[.int .i64 t376, .int .i64 t377, .int .i64 t378, .int .i64 t379] 25 (0, 0))) := ⟨h3_⟩
                      have n4_ : Aside0 (w70.heap[gb387]? = some (.cells #[.int .i64 t382, .int .i64 t383, .int .i64 t384, .int .i64 t385] 25 (0, 0))) := ⟨h4_⟩
                      have n5_ : Aside0 (w70.heap[gb393]? = some (.cells #[.int .i64 t388, .int .i64 t389, .int .i64 t390, .int .i64 t391] 25 (0, 0))) := ⟨h5_⟩
                      have n6_ : Aside0 (w70.heap[gb399]? = some (.cells #[.int .i64 0, .int .i64 0] 34 (0, 0))) := ⟨h6_⟩
                      have n7_ : Aside0 (w.heap.size ≤ gb399) := ⟨h7_⟩
                      have n8_ : Aside0 (w.heap.size ≤ gb399) := ⟨h8_⟩
                      have n9_ : Aside0 (gb359 ≠ gb399) := ⟨h9_⟩
                      have n10_ : Aside0 (gb399 ≠ gb359) := ⟨h10_⟩
                      have n11_ : Aside0 (gb369 ≠ gb399) := ⟨h11_⟩
                      have n12_ : Aside0 (gb399 ≠ gb369) := ⟨h12_⟩
                      have n13_ : Aside0 (gb375 ≠ gb399) := ⟨h13_⟩
                      have n14_ : Aside0 (gb399 ≠ gb375) := ⟨h14_⟩
                      have n15_ : Aside0 (gb381 ≠ gb399) := ⟨h15_⟩
                      have n16_ : Aside0 (gb399 ≠ gb381) := ⟨h16_⟩
                      have n17_ : Aside0 (gb387 ≠ gb399) := ⟨h17_⟩
                      have n18_ : Aside0 (gb399 ≠ gb387) := ⟨h18_⟩
                      have n19_ : Aside0 (gb393 ≠ gb399) := ⟨h19_⟩
                      have n20_ : Aside0 (gb399 ≠ gb393) := ⟨h20_⟩
                      have n21_ : Aside0 (Below w.heap.size w w70) := ⟨h21_⟩
                      clear BK359
                      clear BK369
                      clear BK375
                      clear BK381
                      clear BK387
                      clear BK393
                      clear HB
                      clear h0_ h1_ h2_ h3_ h4_ h5_ h6_ h7_ h8_ h9_ h10_ h11_ h12_ h13_ h14_ h15_ h16_ h17_ h18_ h19_ h20_ h21_
                      have BK359 := n0_
                      have BK369 := n1_
                      have BK375 := n2_
                      have BK381 := n3_
                      have BK387 := n4_
                      have BK393 := n5_
                      have BK399 := n6_
                      have GW399 := n7_
                      have GE399 := n8_
                      have NB359_399 := n9_
                      have NB399_359 := n10_
                      have NB369_399 := n11_
                      have NB399_369 := n12_
                      have NB375_399 := n13_
                      have NB399_375 := n14_
                      have NB381_399 := n15_
                      have NB399_381 := n16_
                      have NB387_399 := n17_
                      have NB399_387 := n18_
                      have NB393_399 := n19_
                      have NB399_393 := n20_
                      have HB := n21_
                      clear n0_ n1_ n2_ n3_ n4_ n5_ n6_ n7_ n8_ n9_ n10_ n11_ n12_ n13_ n14_ n15_ n16_ n17_ n18_ n19_ n20_ n21_
                      have hHeld : w70.cell? ⟨gb369, 0, none⟩ = some (.int .i64 t364) ∧ w70.cell? ⟨gb369, 1, none⟩ = some (.int .i64 t365) ∧ w70.cell? ⟨gb369, 2, none⟩ = some (.int .i64 t366) ∧ w70.cell? ⟨gb369, 3, none⟩ = some (.int .i64 t367) ∧ w70.cell? ⟨gb381, 0, none⟩ = some (.int .i64 t376) ∧ w70.cell? ⟨gb381, 1, none⟩ = some (.int .i64 t377) ∧ w70.cell? ⟨gb381, 2, none⟩ = some (.int .i64 t378) ∧ w70.cell? ⟨gb381, 3, none⟩ = some (.int .i64 t379) := hS_
                      refine norm_ (a' := ?_) ?_ ?_
                      rotate_left
                      · simp only [putAll, Act.put, z1, z2, z3]
                        rfl
                      refine two_ (i := 3) (j := 4) (Ni := some 102) (Nj := some 20) b9_5 b9_6 rfl rfl rfl rfl (two_of HT_.out (by kernel_rfl)) (by decide) (by decide) (fun K hK => ?_) (fun K hK => ?_)
                      · skip
                        refine goes_ Try.func17 (by kernel_rfl) rfl #[.agg #[.int .i64 t376, .int .i64 t377, .int .i64 t378, .int .i64 t379]] (by rfl) rfl rfl sl_ ?_
                        with_reducible refine (sample_Bounds.calls t376 t377 t378 t379 t396 t397 _ A65.out).mono ?_
                        rintro e w71 ⟨rfl, hb⟩
                        refine ⟨_, rfl, ?_⟩
                        have n0_ := Aside0.mk (bb BK359.out hb)
                        have n1_ := Aside0.mk (bb BK369.out hb)
                        have n2_ := Aside0.mk (bb BK375.out hb)
                        have n3_ := Aside0.mk (bb BK381.out hb)
                        have n4_ := Aside0.mk (bb BK387.out hb)
                        have n5_ := Aside0.mk (bb BK393.out hb)
                        have n6_ := Aside0.mk (bb BK399.out hb)
                        have n7_ := Aside0.mk (below_step hb_ hb)
                        clear BK359
                        clear BK369
                        clear BK375
                        clear BK381
                        clear BK387
                        clear BK393
                        clear BK399
                        clear HB
                        have BK359 := n0_
                        have BK369 := n1_
                        have BK375 := n2_
                        have BK381 := n3_
                        have BK387 := n4_
                        have BK393 := n5_
                        have BK399 := n6_
                        have HB := n7_
                        clear n0_ n1_ n2_ n3_ n4_ n5_ n6_ n7_
                        (try clear hb)
                        (try clear hb2)
                        (try clear hk)
                        (try clear hi)
                        refine hK.out _ _ ⟨(blk_cell BK369.out 0).trans rfl, (blk_cell BK369.out 1).trans rfl, (blk_cell BK369.out 2).trans rfl, (blk_cell BK369.out 3).trans rfl, (blk_cell BK381.out 0).trans rfl, (blk_cell BK381.out 1).trans rfl, (blk_cell BK381.out 2).trans rfl, (blk_cell BK381.out 3).trans rfl⟩ (fun hHeld => ?_)
                        clear hK K
                        refine norm_ (a' := ?_) ?_ ?_
                        rotate_left
                        · show Act.put _ (some 102) _ = _
                          simp only [Act.put, z1, z2, z3, i64_w, i32_w]
                          rfl
                        exact norm_ (by first | (simp only [putAll, Act.put, z1, z2, z3]; done) | (simp only [putAll, Act.put, z1, z2, z3]; rfl)) (hJ1_3_5 (gb399) _ ⟨hHeld, (bp BK359.out), (bp BK369.out), (bp BK375.out), (bp BK381.out), (bp BK387.out), (bp BK393.out), (bp BK399.out), GW399.out, GE399.out, NB359_399.out, NB399_359.out, NB369_399.out, NB399_369.out, NB375_399.out, NB399_375.out, NB381_399.out, NB399_381.out, NB387_399.out, NB399_387.out, NB393_399.out, NB399_393.out, hb_⟩)
                      · skip
                        refine box_step ?hg (N := 20) ?hd (cs := #[.int .i64 0, .int .i64 0]) (t := 34) ?hr ?_; (case hd => rfl); (case hg => rfl); (case hr => first | (go_simp; done) | (go_simp; rfl))
                        intro gb398 hg w71 hbox hb
                        have n0_ := Aside0.mk (bb BK359.out hb)
                        have n1_ := Aside0.mk (bb BK369.out hb)
                        have n2_ := Aside0.mk (bb BK375.out hb)
                        have n3_ := Aside0.mk (bb BK381.out hb)
                        have n4_ := Aside0.mk (bb BK387.out hb)
                        have n5_ := Aside0.mk (bb BK393.out hb)
                        have n6_ := Aside0.mk (bb BK399.out hb)
                        have n7_ := Aside0.mk (below_step hb_ hb)
                        have n8_ := Aside0.mk (hbox)
                        have n9_ := Aside0.mk ((by rw [hg]; exact (below_size hb_) : w.heap.size ≤ gb398))
                        have n10_ := Aside0.mk ((by rw [hg]; exact (below_size hb_) : w.heap.size ≤ gb398))
                        have n11_ := Aside0.mk ((by rw [hg]; exact Nat.ne_of_lt (bl BK359.out) : gb359 ≠ gb398))
                        have n12_ := Aside0.mk ((by rw [hg]; exact Nat.ne_of_gt (bl BK359.out) : gb398 ≠ gb359))
                        have n13_ := Aside0.mk ((by rw [hg]; exact Nat.ne_of_lt (bl BK369.out) : gb369 ≠ gb398))
                        have n14_ := Aside0.mk ((by rw [hg]; exact Nat.ne_of_gt (bl BK369.out) : gb398 ≠ gb369))
                        have n15_ := Aside0.mk ((by rw [hg]; exact Nat.ne_of_lt (bl BK375.out) : gb375 ≠ gb398))
                        have n16_ := Aside0.mk ((by rw [hg]; exact Nat.ne_of_gt (bl BK375.out) : gb398 ≠ gb375))
                        have n17_ := Aside0.mk ((by rw [hg]; exact Nat.ne_of_lt (bl BK381.out) : gb381 ≠ gb398))
                        have n18_ := Aside0.mk ((by rw [hg]; exact Nat.ne_of_gt (bl BK381.out) : gb398 ≠ gb381))
                        have n19_ := Aside0.mk ((by rw [hg]; exact Nat.ne_of_lt (bl BK387.out) : gb387 ≠ gb398))
                        have n20_ := Aside0.mk ((by rw [hg]; exact Nat.ne_of_gt (bl BK387.out) : gb398 ≠ gb387))
                        have n21_ := Aside0.mk ((by rw [hg]; exact Nat.ne_of_lt (bl BK393.out) : gb393 ≠ gb398))
                        have n22_ := Aside0.mk ((by rw [hg]; exact Nat.ne_of_gt (bl BK393.out) : gb398 ≠ gb393))
                        have n23_ := Aside0.mk ((by rw [hg]; exact Nat.ne_of_lt (bl BK399.out) : gb399 ≠ gb398))
                        have n24_ := Aside0.mk ((by rw [hg]; exact Nat.ne_of_gt (bl BK399.out) : gb398 ≠ gb399))
                        clear BK359
                        clear BK369
                        clear BK375
                        clear BK381
                        clear BK387
                        clear BK393
                        clear BK399
                        clear HB
                        have BK359 := n0_
                        have BK369 := n1_
                        have BK375 := n2_
                        have BK381 := n3_
                        have BK387 := n4_
                        have BK393 := n5_
                        have BK399 := n6_
                        have HB := n7_
                        have BK398 := n8_
                        have GW398 := n9_
                        have GE398 := n10_
                        have NB359_398 := n11_
                        have NB398_359 := n12_
                        have NB369_398 := n13_
                        have NB398_369 := n14_
                        have NB375_398 := n15_
                        have NB398_375 := n16_
                        have NB381_398 := n17_
                        have NB398_381 := n18_
                        have NB387_398 := n19_
                        have NB398_387 := n20_
                        have NB393_398 := n21_
                        have NB398_393 := n22_
                        have NB399_398 := n23_
                        have NB398_399 := n24_
                        clear n0_ n1_ n2_ n3_ n4_ n5_ n6_ n7_ n8_ n9_ n10_ n11_ n12_ n13_ n14_ n15_ n16_ n17_ n18_ n19_ n20_ n21_ n22_ n23_ n24_
                        clear hb hbox hg
                        refine hK.out _ _ ⟨(blk_cell BK369.out 0).trans rfl, (blk_cell BK369.out 1).trans rfl, (blk_cell BK369.out 2).trans rfl, (blk_cell BK369.out 3).trans rfl, (blk_cell BK381.out 0).trans rfl, (blk_cell BK381.out 1).trans rfl, (blk_cell BK381.out 2).trans rfl, (blk_cell BK381.out 3).trans rfl⟩ (fun hHeld => ?_)
                        clear hK K
                        refine norm_ (a' := ?_) ?_ ?_
                        rotate_left
                        · show Act.put _ (some 20) _ = _
                          simp only [Act.put, z1, z2, z3, i64_w, i32_w]
                          rfl
                        exact norm_ (by first | (simp only [putAll, Act.put, z1, z2, z3]; done) | (simp only [putAll, Act.put, z1, z2, z3]; rfl)) (hJ1_4_5 (gb398, gb399) _ ⟨hHeld, (bp BK359.out), (bp BK369.out), (bp BK375.out), (bp BK381.out), (bp BK387.out), (bp BK393.out), (bp BK398.out), (bp BK399.out), GW398.out, GE398.out, NB359_398.out, NB398_359.out, NB369_398.out, NB398_369.out, NB375_398.out, NB398_375.out, NB381_398.out, NB398_381.out, NB387_398.out, NB398_387.out, NB393_398.out, NB398_393.out, NB399_398.out, NB398_399.out, GW399.out, GE399.out, NB359_399.out, NB399_359.out, NB369_399.out, NB399_369.out, NB375_399.out, NB399_375.out, NB381_399.out, NB399_381.out, NB387_399.out, NB399_387.out, NB393_399.out, NB399_393.out, hb_⟩)
                  · skip
                    rintro gb398 w70 ⟨hS_, h0_, h1_, h2_, h3_, h4_, h5_, h6_, h7_, h8_, h9_, h10_, h11_, h12_, h13_, h14_, h15_, h16_, h17_, h18_, h19_, h20_, h21_⟩
                    have n0_ : Aside0 (w70.heap[gb359]? = some (.cells #[.int .u32 a0_0, .int .u32 a0_1, .int .u32 a0_2, .int .i32 a0_3, .int .i32 a0_4, .int .i32 a0_5] 39 (0, 0))) := ⟨h0_⟩
                    have n1_ : Aside0 (w70.heap[gb369]? = some (.cells #[.int .i64 t364, .int .i64 t365, .int .i64 t366, .int .i64 t367] 25 (0, 0))) := ⟨h1_⟩
                    have n2_ : Aside0 (w70.heap[gb375]? = some (.cells #[.int .i64 t370, .int .i64 t371, .int .i64 t372, .int .i64 t373] 25 (0, 0))) := ⟨h2_⟩
                    have n3_ : Aside0 (w70.heap[gb381]? = some (.cells #[.int .i64 t376, .int .i64 t377, .int .i64 t378, .int .i64 t379] 25 (0, 0))) := ⟨h3_⟩
                    have n4_ : Aside0 (w70.heap[gb387]? = some (.cells #[.int .i64 t382, .int .i64 t383, .int .i64 t384, .int .i64 t385] 25 (0, 0))) := ⟨h4_⟩
                    have n5_ : Aside0 (w70.heap[gb393]? = some (.cells #[.int .i64 t388, .int .i64 t389, .int .i64 t390, .int .i64 t391] 25 (0, 0))) := ⟨h5_⟩
                    have n6_ : Aside0 (w70.heap[gb398]? = some (.cells #[.int .i64 0, .int .i64 0] 34 (0, 0))) := ⟨h6_⟩
                    have n7_ : Aside0 (w.heap.size ≤ gb398) := ⟨h7_⟩
                    have n8_ : Aside0 (w.heap.size ≤ gb398) := ⟨h8_⟩
                    have n9_ : Aside0 (gb359 ≠ gb398) := ⟨h9_⟩
                    have n10_ : Aside0 (gb398 ≠ gb359) := ⟨h10_⟩
                    have n11_ : Aside0 (gb369 ≠ gb398) := ⟨h11_⟩
                    have n12_ : Aside0 (gb398 ≠ gb369) := ⟨h12_⟩
                    have n13_ : Aside0 (gb375 ≠ gb398) := ⟨h13_⟩
                    have n14_ : Aside0 (gb398 ≠ gb375) := ⟨h14_⟩
                    have n15_ : Aside0 (gb381 ≠ gb398) := ⟨h15_⟩
                    have n16_ : Aside0 (gb398 ≠ gb381) := ⟨h16_⟩
                    have n17_ : Aside0 (gb387 ≠ gb398) := ⟨h17_⟩
                    have n18_ : Aside0 (gb398 ≠ gb387) := ⟨h18_⟩
                    have n19_ : Aside0 (gb393 ≠ gb398) := ⟨h19_⟩
                    have n20_ : Aside0 (gb398 ≠ gb393) := ⟨h20_⟩
                    have n21_ : Aside0 (Below w.heap.size w w70) := ⟨h21_⟩
                    clear BK359
                    clear BK369
                    clear BK375
                    clear BK381
                    clear BK387
                    clear BK393
                    clear HB
                    clear h0_ h1_ h2_ h3_ h4_ h5_ h6_ h7_ h8_ h9_ h10_ h11_ h12_ h13_ h14_ h15_ h16_ h17_ h18_ h19_ h20_ h21_
                    have BK359 := n0_
                    have BK369 := n1_
                    have BK375 := n2_
                    have BK381 := n3_
                    have BK387 := n4_
                    have BK393 := n5_
                    have BK398 := n6_
                    have GW398 := n7_
                    have GE398 := n8_
                    have NB359_398 := n9_
                    have NB398_359 := n10_
                    have NB369_398 := n11_
                    have NB398_369 := n12_
                    have NB375_398 := n13_
                    have NB398_375 := n14_
                    have NB381_398 := n15_
                    have NB398_381 := n16_
                    have NB387_398 := n17_
                    have NB398_387 := n18_
                    have NB393_398 := n19_
                    have NB398_393 := n20_
                    have HB := n21_
                    clear n0_ n1_ n2_ n3_ n4_ n5_ n6_ n7_ n8_ n9_ n10_ n11_ n12_ n13_ n14_ n15_ n16_ n17_ n18_ n19_ n20_ n21_
                    have hHeld : w70.cell? ⟨gb369, 0, none⟩ = some (.int .i64 t364) ∧ w70.cell? ⟨gb369, 1, none⟩ = some (.int .i64 t365) ∧ w70.cell? ⟨gb369, 2, none⟩ = some (.int .i64 t366) ∧ w70.cell? ⟨gb369, 3, none⟩ = some (.int .i64 t367) ∧ w70.cell? ⟨gb381, 0, none⟩ = some (.int .i64 t376) ∧ w70.cell? ⟨gb381, 1, none⟩ = some (.int .i64 t377) ∧ w70.cell? ⟨gb381, 2, none⟩ = some (.int .i64 t378) ∧ w70.cell? ⟨gb381, 3, none⟩ = some (.int .i64 t379) := hS_
                    refine norm_ (a' := ?_) ?_ ?_
                    rotate_left
                    · simp only [putAll, Act.put, z1, z2, z3]
                      rfl
                    refine two_ (i := 3) (j := 5) (Ni := some 102) (Nj := some 21) b9_4 b9_6 rfl rfl rfl rfl (two_of HT_.out (by kernel_rfl)) (by decide) (by decide) (fun K hK => ?_) (fun K hK => ?_)
                    · skip
                      refine goes_ Try.func17 (by kernel_rfl) rfl #[.agg #[.int .i64 t376, .int .i64 t377, .int .i64 t378, .int .i64 t379]] (by rfl) rfl rfl sl_ ?_
                      with_reducible refine (sample_Bounds.calls t376 t377 t378 t379 t396 t397 _ A65.out).mono ?_
                      rintro e w71 ⟨rfl, hb⟩
                      refine ⟨_, rfl, ?_⟩
                      have n0_ := Aside0.mk (bb BK359.out hb)
                      have n1_ := Aside0.mk (bb BK369.out hb)
                      have n2_ := Aside0.mk (bb BK375.out hb)
                      have n3_ := Aside0.mk (bb BK381.out hb)
                      have n4_ := Aside0.mk (bb BK387.out hb)
                      have n5_ := Aside0.mk (bb BK393.out hb)
                      have n6_ := Aside0.mk (bb BK398.out hb)
                      have n7_ := Aside0.mk (below_step hb_ hb)
                      clear BK359
                      clear BK369
                      clear BK375
                      clear BK381
                      clear BK387
                      clear BK393
                      clear BK398
                      clear HB
                      have BK359 := n0_
                      have BK369 := n1_
                      have BK375 := n2_
                      have BK381 := n3_
                      have BK387 := n4_
                      have BK393 := n5_
                      have BK398 := n6_
                      have HB := n7_
                      clear n0_ n1_ n2_ n3_ n4_ n5_ n6_ n7_
                      (try clear hb)
                      (try clear hb2)
                      (try clear hk)
                      (try clear hi)
                      refine hK.out _ _ ⟨(blk_cell BK369.out 0).trans rfl, (blk_cell BK369.out 1).trans rfl, (blk_cell BK369.out 2).trans rfl, (blk_cell BK369.out 3).trans rfl, (blk_cell BK381.out 0).trans rfl, (blk_cell BK381.out 1).trans rfl, (blk_cell BK381.out 2).trans rfl, (blk_cell BK381.out 3).trans rfl⟩ (fun hHeld => ?_)
                      clear hK K
                      refine norm_ (a' := ?_) ?_ ?_
                      rotate_left
                      · show Act.put _ (some 102) _ = _
                        simp only [Act.put, z1, z2, z3, i64_w, i32_w]
                        rfl
                      exact norm_ (by first | (simp only [putAll, Act.put, z1, z2, z3]; done) | (simp only [putAll, Act.put, z1, z2, z3]; rfl)) (hJ1_3_4 (gb398) _ ⟨hHeld, (bp BK359.out), (bp BK369.out), (bp BK375.out), (bp BK381.out), (bp BK387.out), (bp BK393.out), (bp BK398.out), GW398.out, GE398.out, NB359_398.out, NB398_359.out, NB369_398.out, NB398_369.out, NB375_398.out, NB398_375.out, NB381_398.out, NB398_381.out, NB387_398.out, NB398_387.out, NB393_398.out, NB398_393.out, hb_⟩)
                    · skip
                      refine box_step ?hg (N := 21) ?hd (cs := #[.int .i64 0, .int .i64 0]) (t := 34) ?hr ?_; (case hd => rfl); (case hg => rfl); (case hr => first | (go_simp; done) | (go_simp; rfl))
                      intro gb399 hg w71 hbox hb
                      have n0_ := Aside0.mk (bb BK359.out hb)
                      have n1_ := Aside0.mk (bb BK369.out hb)
                      have n2_ := Aside0.mk (bb BK375.out hb)
                      have n3_ := Aside0.mk (bb BK381.out hb)
                      have n4_ := Aside0.mk (bb BK387.out hb)
                      have n5_ := Aside0.mk (bb BK393.out hb)
                      have n6_ := Aside0.mk (bb BK398.out hb)
                      have n7_ := Aside0.mk (below_step hb_ hb)
                      have n8_ := Aside0.mk (hbox)
                      have n9_ := Aside0.mk ((by rw [hg]; exact (below_size hb_) : w.heap.size ≤ gb399))
                      have n10_ := Aside0.mk ((by rw [hg]; exact (below_size hb_) : w.heap.size ≤ gb399))
                      have n11_ := Aside0.mk ((by rw [hg]; exact Nat.ne_of_lt (bl BK359.out) : gb359 ≠ gb399))
                      have n12_ := Aside0.mk ((by rw [hg]; exact Nat.ne_of_gt (bl BK359.out) : gb399 ≠ gb359))
                      have n13_ := Aside0.mk ((by rw [hg]; exact Nat.ne_of_lt (bl BK369.out) : gb369 ≠ gb399))
                      have n14_ := Aside0.mk ((by rw [hg]; exact Nat.ne_of_gt (bl BK369.out) : gb399 ≠ gb369))
                      have n15_ := Aside0.mk ((by rw [hg]; exact Nat.ne_of_lt (bl BK375.out) : gb375 ≠ gb399))
                      have n16_ := Aside0.mk ((by rw [hg]; exact Nat.ne_of_gt (bl BK375.out) : gb399 ≠ gb375))
                      have n17_ := Aside0.mk ((by rw [hg]; exact Nat.ne_of_lt (bl BK381.out) : gb381 ≠ gb399))
                      have n18_ := Aside0.mk ((by rw [hg]; exact Nat.ne_of_gt (bl BK381.out) : gb399 ≠ gb381))
                      have n19_ := Aside0.mk ((by rw [hg]; exact Nat.ne_of_lt (bl BK387.out) : gb387 ≠ gb399))
                      have n20_ := Aside0.mk ((by rw [hg]; exact Nat.ne_of_gt (bl BK387.out) : gb399 ≠ gb387))
                      have n21_ := Aside0.mk ((by rw [hg]; exact Nat.ne_of_lt (bl BK393.out) : gb393 ≠ gb399))
                      have n22_ := Aside0.mk ((by rw [hg]; exact Nat.ne_of_gt (bl BK393.out) : gb399 ≠ gb393))
                      have n23_ := Aside0.mk ((by rw [hg]; exact Nat.ne_of_lt (bl BK398.out) : gb398 ≠ gb399))
                      have n24_ := Aside0.mk ((by rw [hg]; exact Nat.ne_of_gt (bl BK398.out) : gb399 ≠ gb398))
                      clear BK359
                      clear BK369
                      clear BK375
                      clear BK381
                      clear BK387
                      clear BK393
                      clear BK398
                      clear HB
                      have BK359 := n0_
                      have BK369 := n1_
                      have BK375 := n2_
                      have BK381 := n3_
                      have BK387 := n4_
                      have BK393 := n5_
                      have BK398 := n6_
                      have HB := n7_
                      have BK399 := n8_
                      have GW399 := n9_
                      have GE399 := n10_
                      have NB359_399 := n11_
                      have NB399_359 := n12_
                      have NB369_399 := n13_
                      have NB399_369 := n14_
                      have NB375_399 := n15_
                      have NB399_375 := n16_
                      have NB381_399 := n17_
                      have NB399_381 := n18_
                      have NB387_399 := n19_
                      have NB399_387 := n20_
                      have NB393_399 := n21_
                      have NB399_393 := n22_
                      have NB398_399 := n23_
                      have NB399_398 := n24_
                      clear n0_ n1_ n2_ n3_ n4_ n5_ n6_ n7_ n8_ n9_ n10_ n11_ n12_ n13_ n14_ n15_ n16_ n17_ n18_ n19_ n20_ n21_ n22_ n23_ n24_
                      clear hb hbox hg
                      refine hK.out _ _ ⟨(blk_cell BK369.out 0).trans rfl, (blk_cell BK369.out 1).trans rfl, (blk_cell BK369.out 2).trans rfl, (blk_cell BK369.out 3).trans rfl, (blk_cell BK381.out 0).trans rfl, (blk_cell BK381.out 1).trans rfl, (blk_cell BK381.out 2).trans rfl, (blk_cell BK381.out 3).trans rfl⟩ (fun hHeld => ?_)
                      clear hK K
                      refine norm_ (a' := ?_) ?_ ?_
                      rotate_left
                      · show Act.put _ (some 21) _ = _
                        simp only [Act.put, z1, z2, z3, i64_w, i32_w]
                        rfl
                      exact norm_ (by first | (simp only [putAll, Act.put, z1, z2, z3]; done) | (simp only [putAll, Act.put, z1, z2, z3]; rfl)) (hJ1_4_5 (gb398, gb399) _ ⟨hHeld, (bp BK359.out), (bp BK369.out), (bp BK375.out), (bp BK381.out), (bp BK387.out), (bp BK393.out), (bp BK398.out), (bp BK399.out), GW398.out, GE398.out, NB359_398.out, NB398_359.out, NB369_398.out, NB398_369.out, NB375_398.out, NB398_375.out, NB381_398.out, NB398_381.out, NB387_398.out, NB398_387.out, NB393_398.out, NB398_393.out, NB399_398.out, NB398_399.out, GW399.out, GE399.out, NB359_399.out, NB399_359.out, NB369_399.out, NB399_369.out, NB375_399.out, NB399_375.out, NB381_399.out, NB399_381.out, NB387_399.out, NB399_387.out, NB393_399.out, NB399_393.out, hb_⟩)
                · skip
                  rintro _ w70 ⟨hS_, h0_, h1_, h2_, h3_, h4_, h5_, h6_⟩
                  have n0_ : Aside0 (w70.heap[gb359]? = some (.cells #[.int .u32 a0_0, .int .u32 a0_1, .int .u32 a0_2, .int .i32 a0_3, .int .i32 a0_4, .int .i32 a0_5] 39 (0, 0))) := ⟨h0_⟩
                  have n1_ : Aside0 (w70.heap[gb369]? = some (.cells #[.int .i64 t364, .int .i64 t365, .int .i64 t366, .int .i64 t367] 25 (0, 0))) := ⟨h1_⟩
                  have n2_ : Aside0 (w70.heap[gb375]? = some (.cells #[.int .i64 t370, .int .i64 t371, .int .i64 t372, .int .i64 t373] 25 (0, 0))) := ⟨h2_⟩
                  have n3_ : Aside0 (w70.heap[gb381]? = some (.cells #[.int .i64 t376, .int .i64 t377, .int .i64 t378, .int .i64 t379] 25 (0, 0))) := ⟨h3_⟩
                  have n4_ : Aside0 (w70.heap[gb387]? = some (.cells #[.int .i64 t382, .int .i64 t383, .int .i64 t384, .int .i64 t385] 25 (0, 0))) := ⟨h4_⟩
                  have n5_ : Aside0 (w70.heap[gb393]? = some (.cells #[.int .i64 t388, .int .i64 t389, .int .i64 t390, .int .i64 t391] 25 (0, 0))) := ⟨h5_⟩
                  have n6_ : Aside0 (Below w.heap.size w w70) := ⟨h6_⟩
                  clear BK359
                  clear BK369
                  clear BK375
                  clear BK381
                  clear BK387
                  clear BK393
                  clear HB
                  clear h0_ h1_ h2_ h3_ h4_ h5_ h6_
                  have BK359 := n0_
                  have BK369 := n1_
                  have BK375 := n2_
                  have BK381 := n3_
                  have BK387 := n4_
                  have BK393 := n5_
                  have HB := n6_
                  clear n0_ n1_ n2_ n3_ n4_ n5_ n6_
                  have hHeld : w70.cell? ⟨gb369, 0, none⟩ = some (.int .i64 t364) ∧ w70.cell? ⟨gb369, 1, none⟩ = some (.int .i64 t365) ∧ w70.cell? ⟨gb369, 2, none⟩ = some (.int .i64 t366) ∧ w70.cell? ⟨gb369, 3, none⟩ = some (.int .i64 t367) ∧ w70.cell? ⟨gb381, 0, none⟩ = some (.int .i64 t376) ∧ w70.cell? ⟨gb381, 1, none⟩ = some (.int .i64 t377) ∧ w70.cell? ⟨gb381, 2, none⟩ = some (.int .i64 t378) ∧ w70.cell? ⟨gb381, 3, none⟩ = some (.int .i64 t379) := hS_
                  refine norm_ (a' := ?_) ?_ ?_
                  rotate_left
                  · simp only [putAll, Act.put, z1, z2, z3]
                    rfl
                  refine two_ (i := 4) (j := 5) (Ni := some 20) (Nj := some 21) b9_4 b9_5 rfl rfl rfl rfl (two_of HT_.out (by kernel_rfl)) (by decide) (by decide) (fun K hK => ?_) (fun K hK => ?_)
                  · skip
                    refine box_step ?hg (N := 20) ?hd (cs := #[.int .i64 0, .int .i64 0]) (t := 34) ?hr ?_; (case hd => rfl); (case hg => rfl); (case hr => first | (go_simp; done) | (go_simp; rfl))
                    intro gb398 hg w71 hbox hb
                    have n0_ := Aside0.mk (bb BK359.out hb)
                    have n1_ := Aside0.mk (bb BK369.out hb)
                    have n2_ := Aside0.mk (bb BK375.out hb)
                    have n3_ := Aside0.mk (bb BK381.out hb)
                    have n4_ := Aside0.mk (bb BK387.out hb)
                    have n5_ := Aside0.mk (bb BK393.out hb)
                    have n6_ := Aside0.mk (below_step hb_ hb)
                    have n7_ := Aside0.mk (hbox)
                    have n8_ := Aside0.mk ((by rw [hg]; exact (below_size hb_) : w.heap.size ≤ gb398))
                    have n9_ := Aside0.mk ((by rw [hg]; exact (below_size hb_) : w.heap.size ≤ gb398))
                    have n10_ := Aside0.mk ((by rw [hg]; exact Nat.ne_of_lt (bl BK359.out) : gb359 ≠ gb398))
                    have n11_ := Aside0.mk ((by rw [hg]; exact Nat.ne_of_gt (bl BK359.out) : gb398 ≠ gb359))
                    have n12_ := Aside0.mk ((by rw [hg]; exact Nat.ne_of_lt (bl BK369.out) : gb369 ≠ gb398))
                    have n13_ := Aside0.mk ((by rw [hg]; exact Nat.ne_of_gt (bl BK369.out) : gb398 ≠ gb369))
                    have n14_ := Aside0.mk ((by rw [hg]; exact Nat.ne_of_lt (bl BK375.out) : gb375 ≠ gb398))
                    have n15_ := Aside0.mk ((by rw [hg]; exact Nat.ne_of_gt (bl BK375.out) : gb398 ≠ gb375))
                    have n16_ := Aside0.mk ((by rw [hg]; exact Nat.ne_of_lt (bl BK381.out) : gb381 ≠ gb398))
                    have n17_ := Aside0.mk ((by rw [hg]; exact Nat.ne_of_gt (bl BK381.out) : gb398 ≠ gb381))
                    have n18_ := Aside0.mk ((by rw [hg]; exact Nat.ne_of_lt (bl BK387.out) : gb387 ≠ gb398))
                    have n19_ := Aside0.mk ((by rw [hg]; exact Nat.ne_of_gt (bl BK387.out) : gb398 ≠ gb387))
                    have n20_ := Aside0.mk ((by rw [hg]; exact Nat.ne_of_lt (bl BK393.out) : gb393 ≠ gb398))
                    have n21_ := Aside0.mk ((by rw [hg]; exact Nat.ne_of_gt (bl BK393.out) : gb398 ≠ gb393))
                    clear BK359
                    clear BK369
                    clear BK375
                    clear BK381
                    clear BK387
                    clear BK393
                    clear HB
                    have BK359 := n0_
                    have BK369 := n1_
                    have BK375 := n2_
                    have BK381 := n3_
                    have BK387 := n4_
                    have BK393 := n5_
                    have HB := n6_
                    have BK398 := n7_
                    have GW398 := n8_
                    have GE398 := n9_
                    have NB359_398 := n10_
                    have NB398_359 := n11_
                    have NB369_398 := n12_
                    have NB398_369 := n13_
                    have NB375_398 := n14_
                    have NB398_375 := n15_
                    have NB381_398 := n16_
                    have NB398_381 := n17_
                    have NB387_398 := n18_
                    have NB398_387 := n19_
                    have NB393_398 := n20_
                    have NB398_393 := n21_
                    clear n0_ n1_ n2_ n3_ n4_ n5_ n6_ n7_ n8_ n9_ n10_ n11_ n12_ n13_ n14_ n15_ n16_ n17_ n18_ n19_ n20_ n21_
                    clear hb hbox hg
                    refine hK.out _ _ ⟨(blk_cell BK369.out 0).trans rfl, (blk_cell BK369.out 1).trans rfl, (blk_cell BK369.out 2).trans rfl, (blk_cell BK369.out 3).trans rfl, (blk_cell BK381.out 0).trans rfl, (blk_cell BK381.out 1).trans rfl, (blk_cell BK381.out 2).trans rfl, (blk_cell BK381.out 3).trans rfl⟩ (fun hHeld => ?_)
                    clear hK K
                    refine norm_ (a' := ?_) ?_ ?_
                    rotate_left
                    · show Act.put _ (some 20) _ = _
                      simp only [Act.put, z1, z2, z3, i64_w, i32_w]
                      rfl
                    exact norm_ (by first | (simp only [putAll, Act.put, z1, z2, z3]; done) | (simp only [putAll, Act.put, z1, z2, z3]; rfl)) (hJ1_3_4 (gb398) _ ⟨hHeld, (bp BK359.out), (bp BK369.out), (bp BK375.out), (bp BK381.out), (bp BK387.out), (bp BK393.out), (bp BK398.out), GW398.out, GE398.out, NB359_398.out, NB398_359.out, NB369_398.out, NB398_369.out, NB375_398.out, NB398_375.out, NB381_398.out, NB398_381.out, NB387_398.out, NB398_387.out, NB393_398.out, NB398_393.out, hb_⟩)
                  · skip
                    refine box_step ?hg (N := 21) ?hd (cs := #[.int .i64 0, .int .i64 0]) (t := 34) ?hr ?_; (case hd => rfl); (case hg => rfl); (case hr => first | (go_simp; done) | (go_simp; rfl))
                    intro gb399 hg w71 hbox hb
                    have n0_ := Aside0.mk (bb BK359.out hb)
                    have n1_ := Aside0.mk (bb BK369.out hb)
                    have n2_ := Aside0.mk (bb BK375.out hb)
                    have n3_ := Aside0.mk (bb BK381.out hb)
                    have n4_ := Aside0.mk (bb BK387.out hb)
                    have n5_ := Aside0.mk (bb BK393.out hb)
                    have n6_ := Aside0.mk (below_step hb_ hb)
                    have n7_ := Aside0.mk (hbox)
                    have n8_ := Aside0.mk ((by rw [hg]; exact (below_size hb_) : w.heap.size ≤ gb399))
                    have n9_ := Aside0.mk ((by rw [hg]; exact (below_size hb_) : w.heap.size ≤ gb399))
                    have n10_ := Aside0.mk ((by rw [hg]; exact Nat.ne_of_lt (bl BK359.out) : gb359 ≠ gb399))
                    have n11_ := Aside0.mk ((by rw [hg]; exact Nat.ne_of_gt (bl BK359.out) : gb399 ≠ gb359))
                    have n12_ := Aside0.mk ((by rw [hg]; exact Nat.ne_of_lt (bl BK369.out) : gb369 ≠ gb399))
                    have n13_ := Aside0.mk ((by rw [hg]; exact Nat.ne_of_gt (bl BK369.out) : gb399 ≠ gb369))
                    have n14_ := Aside0.mk ((by rw [hg]; exact Nat.ne_of_lt (bl BK375.out) : gb375 ≠ gb399))
                    have n15_ := Aside0.mk ((by rw [hg]; exact Nat.ne_of_gt (bl BK375.out) : gb399 ≠ gb375))
                    have n16_ := Aside0.mk ((by rw [hg]; exact Nat.ne_of_lt (bl BK381.out) : gb381 ≠ gb399))
                    have n17_ := Aside0.mk ((by rw [hg]; exact Nat.ne_of_gt (bl BK381.out) : gb399 ≠ gb381))
                    have n18_ := Aside0.mk ((by rw [hg]; exact Nat.ne_of_lt (bl BK387.out) : gb387 ≠ gb399))
                    have n19_ := Aside0.mk ((by rw [hg]; exact Nat.ne_of_gt (bl BK387.out) : gb399 ≠ gb387))
                    have n20_ := Aside0.mk ((by rw [hg]; exact Nat.ne_of_lt (bl BK393.out) : gb393 ≠ gb399))
                    have n21_ := Aside0.mk ((by rw [hg]; exact Nat.ne_of_gt (bl BK393.out) : gb399 ≠ gb393))
                    clear BK359
                    clear BK369
                    clear BK375
                    clear BK381
                    clear BK387
                    clear BK393
                    clear HB
                    have BK359 := n0_
                    have BK369 := n1_
                    have BK375 := n2_
                    have BK381 := n3_
                    have BK387 := n4_
                    have BK393 := n5_
                    have HB := n6_
                    have BK399 := n7_
                    have GW399 := n8_
                    have GE399 := n9_
                    have NB359_399 := n10_
                    have NB399_359 := n11_
                    have NB369_399 := n12_
                    have NB399_369 := n13_
                    have NB375_399 := n14_
                    have NB399_375 := n15_
                    have NB381_399 := n16_
                    have NB399_381 := n17_
                    have NB387_399 := n18_
                    have NB399_387 := n19_
                    have NB393_399 := n20_
                    have NB399_393 := n21_
                    clear n0_ n1_ n2_ n3_ n4_ n5_ n6_ n7_ n8_ n9_ n10_ n11_ n12_ n13_ n14_ n15_ n16_ n17_ n18_ n19_ n20_ n21_
                    clear hb hbox hg
                    refine hK.out _ _ ⟨(blk_cell BK369.out 0).trans rfl, (blk_cell BK369.out 1).trans rfl, (blk_cell BK369.out 2).trans rfl, (blk_cell BK369.out 3).trans rfl, (blk_cell BK381.out 0).trans rfl, (blk_cell BK381.out 1).trans rfl, (blk_cell BK381.out 2).trans rfl, (blk_cell BK381.out 3).trans rfl⟩ (fun hHeld => ?_)
                    clear hK K
                    refine norm_ (a' := ?_) ?_ ?_
                    rotate_left
                    · show Act.put _ (some 21) _ = _
                      simp only [Act.put, z1, z2, z3, i64_w, i32_w]
                      rfl
                    exact norm_ (by first | (simp only [putAll, Act.put, z1, z2, z3]; done) | (simp only [putAll, Act.put, z1, z2, z3]; rfl)) (hJ1_3_5 (gb399) _ ⟨hHeld, (bp BK359.out), (bp BK369.out), (bp BK375.out), (bp BK381.out), (bp BK387.out), (bp BK393.out), (bp BK399.out), GW399.out, GE399.out, NB359_399.out, NB399_359.out, NB369_399.out, NB399_369.out, NB375_399.out, NB399_375.out, NB381_399.out, NB399_381.out, NB387_399.out, NB399_387.out, NB393_399.out, NB399_393.out, hb_⟩)
              · skip
                rintro ⟨gb398, gb399⟩ w71 ⟨hS_, h0_, h1_, h2_, h3_, h4_, h5_, h6_, h7_, h8_, h9_, h10_, h11_, h12_, h13_, h14_, h15_, h16_, h17_, h18_, h19_, h20_, h21_, h22_, h23_, h24_, h25_, h26_, h27_, h28_, h29_, h30_, h31_, h32_, h33_, h34_, h35_, h36_, h37_, h38_⟩
                have n0_ : Aside0 (w71.heap[gb359]? = some (.cells #[.int .u32 a0_0, .int .u32 a0_1, .int .u32 a0_2, .int .i32 a0_3, .int .i32 a0_4, .int .i32 a0_5] 39 (0, 0))) := ⟨h0_⟩
                have n1_ : Aside0 (w71.heap[gb369]? = some (.cells #[.int .i64 t364, .int .i64 t365, .int .i64 t366, .int .i64 t367] 25 (0, 0))) := ⟨h1_⟩
                have n2_ : Aside0 (w71.heap[gb375]? = some (.cells #[.int .i64 t370, .int .i64 t371, .int .i64 t372, .int .i64 t373] 25 (0, 0))) := ⟨h2_⟩
                have n3_ : Aside0 (w71.heap[gb381]? = some (.cells #[.int .i64 t376, .int .i64 t377, .int .i64 t378, .int .i64 t379] 25 (0, 0))) := ⟨h3_⟩
                have n4_ : Aside0 (w71.heap[gb387]? = some (.cells #[.int .i64 t382, .int .i64 t383, .int .i64 t384, .int .i64 t385] 25 (0, 0))) := ⟨h4_⟩
                have n5_ : Aside0 (w71.heap[gb393]? = some (.cells #[.int .i64 t388, .int .i64 t389, .int .i64 t390, .int .i64 t391] 25 (0, 0))) := ⟨h5_⟩
                have n6_ : Aside0 (w71.heap[gb398]? = some (.cells #[.int .i64 0, .int .i64 0] 34 (0, 0))) := ⟨h6_⟩
                have n7_ : Aside0 (w71.heap[gb399]? = some (.cells #[.int .i64 0, .int .i64 0] 34 (0, 0))) := ⟨h7_⟩
                have n8_ : Aside0 (w.heap.size ≤ gb398) := ⟨h8_⟩
                have n9_ : Aside0 (w.heap.size ≤ gb398) := ⟨h9_⟩
                have n10_ : Aside0 (gb359 ≠ gb398) := ⟨h10_⟩
                have n11_ : Aside0 (gb398 ≠ gb359) := ⟨h11_⟩
                have n12_ : Aside0 (gb369 ≠ gb398) := ⟨h12_⟩
                have n13_ : Aside0 (gb398 ≠ gb369) := ⟨h13_⟩
                have n14_ : Aside0 (gb375 ≠ gb398) := ⟨h14_⟩
                have n15_ : Aside0 (gb398 ≠ gb375) := ⟨h15_⟩
                have n16_ : Aside0 (gb381 ≠ gb398) := ⟨h16_⟩
                have n17_ : Aside0 (gb398 ≠ gb381) := ⟨h17_⟩
                have n18_ : Aside0 (gb387 ≠ gb398) := ⟨h18_⟩
                have n19_ : Aside0 (gb398 ≠ gb387) := ⟨h19_⟩
                have n20_ : Aside0 (gb393 ≠ gb398) := ⟨h20_⟩
                have n21_ : Aside0 (gb398 ≠ gb393) := ⟨h21_⟩
                have n22_ : Aside0 (gb399 ≠ gb398) := ⟨h22_⟩
                have n23_ : Aside0 (gb398 ≠ gb399) := ⟨h23_⟩
                have n24_ : Aside0 (w.heap.size ≤ gb399) := ⟨h24_⟩
                have n25_ : Aside0 (w.heap.size ≤ gb399) := ⟨h25_⟩
                have n26_ : Aside0 (gb359 ≠ gb399) := ⟨h26_⟩
                have n27_ : Aside0 (gb399 ≠ gb359) := ⟨h27_⟩
                have n28_ : Aside0 (gb369 ≠ gb399) := ⟨h28_⟩
                have n29_ : Aside0 (gb399 ≠ gb369) := ⟨h29_⟩
                have n30_ : Aside0 (gb375 ≠ gb399) := ⟨h30_⟩
                have n31_ : Aside0 (gb399 ≠ gb375) := ⟨h31_⟩
                have n32_ : Aside0 (gb381 ≠ gb399) := ⟨h32_⟩
                have n33_ : Aside0 (gb399 ≠ gb381) := ⟨h33_⟩
                have n34_ : Aside0 (gb387 ≠ gb399) := ⟨h34_⟩
                have n35_ : Aside0 (gb399 ≠ gb387) := ⟨h35_⟩
                have n36_ : Aside0 (gb393 ≠ gb399) := ⟨h36_⟩
                have n37_ : Aside0 (gb399 ≠ gb393) := ⟨h37_⟩
                have n38_ : Aside0 (Below w.heap.size w w71) := ⟨h38_⟩
                clear BK359
                clear BK369
                clear BK375
                clear BK381
                clear BK387
                clear BK393
                clear HB
                clear h0_ h1_ h2_ h3_ h4_ h5_ h6_ h7_ h8_ h9_ h10_ h11_ h12_ h13_ h14_ h15_ h16_ h17_ h18_ h19_ h20_ h21_ h22_ h23_ h24_ h25_ h26_ h27_ h28_ h29_ h30_ h31_ h32_ h33_ h34_ h35_ h36_ h37_ h38_
                have BK359 := n0_
                have BK369 := n1_
                have BK375 := n2_
                have BK381 := n3_
                have BK387 := n4_
                have BK393 := n5_
                have BK398 := n6_
                have BK399 := n7_
                have GW398 := n8_
                have GE398 := n9_
                have NB359_398 := n10_
                have NB398_359 := n11_
                have NB369_398 := n12_
                have NB398_369 := n13_
                have NB375_398 := n14_
                have NB398_375 := n15_
                have NB381_398 := n16_
                have NB398_381 := n17_
                have NB387_398 := n18_
                have NB398_387 := n19_
                have NB393_398 := n20_
                have NB398_393 := n21_
                have NB399_398 := n22_
                have NB398_399 := n23_
                have GW399 := n24_
                have GE399 := n25_
                have NB359_399 := n26_
                have NB399_359 := n27_
                have NB369_399 := n28_
                have NB399_369 := n29_
                have NB375_399 := n30_
                have NB399_375 := n31_
                have NB381_399 := n32_
                have NB399_381 := n33_
                have NB387_399 := n34_
                have NB399_387 := n35_
                have NB393_399 := n36_
                have NB399_393 := n37_
                have HB := n38_
                clear n0_ n1_ n2_ n3_ n4_ n5_ n6_ n7_ n8_ n9_ n10_ n11_ n12_ n13_ n14_ n15_ n16_ n17_ n18_ n19_ n20_ n21_ n22_ n23_ n24_ n25_ n26_ n27_ n28_ n29_ n30_ n31_ n32_ n33_ n34_ n35_ n36_ n37_ n38_
                have hHeld : w71.cell? ⟨gb369, 0, none⟩ = some (.int .i64 t364) ∧ w71.cell? ⟨gb369, 1, none⟩ = some (.int .i64 t365) ∧ w71.cell? ⟨gb369, 2, none⟩ = some (.int .i64 t366) ∧ w71.cell? ⟨gb369, 3, none⟩ = some (.int .i64 t367) ∧ w71.cell? ⟨gb381, 0, none⟩ = some (.int .i64 t376) ∧ w71.cell? ⟨gb381, 1, none⟩ = some (.int .i64 t377) ∧ w71.cell? ⟨gb381, 2, none⟩ = some (.int .i64 t378) ∧ w71.cell? ⟨gb381, 3, none⟩ = some (.int .i64 t379) := hS_
                refine norm_ (a' := ?_) ?_ ?_
                rotate_left
                · simp only [putAll, Act.put, z1, z2, z3]
                  rfl
                refine one_ (i := 3) (N := some 102) b9_3 rfl rfl (one_of HT_.out (by kernel_rfl)) (by decide) (fun K hK => ?_)
                refine goes_ Try.func17 (by kernel_rfl) rfl #[.agg #[.int .i64 t376, .int .i64 t377, .int .i64 t378, .int .i64 t379]] (by rfl) rfl rfl sl_ ?_
                with_reducible refine (sample_Bounds.calls t376 t377 t378 t379 t396 t397 _ A65.out).mono ?_
                rintro e w72 ⟨rfl, hb⟩
                refine ⟨_, rfl, ?_⟩
                have n0_ := Aside0.mk (bb BK359.out hb)
                have n1_ := Aside0.mk (bb BK369.out hb)
                have n2_ := Aside0.mk (bb BK375.out hb)
                have n3_ := Aside0.mk (bb BK381.out hb)
                have n4_ := Aside0.mk (bb BK387.out hb)
                have n5_ := Aside0.mk (bb BK393.out hb)
                have n6_ := Aside0.mk (bb BK398.out hb)
                have n7_ := Aside0.mk (bb BK399.out hb)
                have n8_ := Aside0.mk (below_step hb_ hb)
                clear BK359
                clear BK369
                clear BK375
                clear BK381
                clear BK387
                clear BK393
                clear BK398
                clear BK399
                clear HB
                have BK359 := n0_
                have BK369 := n1_
                have BK375 := n2_
                have BK381 := n3_
                have BK387 := n4_
                have BK393 := n5_
                have BK398 := n6_
                have BK399 := n7_
                have HB := n8_
                clear n0_ n1_ n2_ n3_ n4_ n5_ n6_ n7_ n8_
                (try clear hb)
                (try clear hb2)
                (try clear hk)
                (try clear hi)
                refine hK.out _ _ ⟨(blk_cell BK369.out 0).trans rfl, (blk_cell BK369.out 1).trans rfl, (blk_cell BK369.out 2).trans rfl, (blk_cell BK369.out 3).trans rfl, (blk_cell BK381.out 0).trans rfl, (blk_cell BK381.out 1).trans rfl, (blk_cell BK381.out 2).trans rfl, (blk_cell BK381.out 3).trans rfl⟩ (fun hHeld => ?_)
                clear hK K
                refine norm_ (a' := ?_) ?_ ?_
                rotate_left
                · show Act.put _ (some 102) _ = _
                  simp only [Act.put, z1, z2, z3, i64_w, i32_w]
                  rfl
                exact norm_ (by first | (simp only [putAll, Act.put, z1, z2, z3]; done) | (simp only [putAll, Act.put, z1, z2, z3]; rfl)) (hJ1_3_4_5 (gb398, gb399) _ ⟨hHeld, (bp BK359.out), (bp BK369.out), (bp BK375.out), (bp BK381.out), (bp BK387.out), (bp BK393.out), (bp BK398.out), (bp BK399.out), GW398.out, GE398.out, NB359_398.out, NB398_359.out, NB369_398.out, NB398_369.out, NB375_398.out, NB398_375.out, NB381_398.out, NB398_381.out, NB387_398.out, NB398_387.out, NB393_398.out, NB398_393.out, NB399_398.out, NB398_399.out, GW399.out, GE399.out, NB359_399.out, NB399_359.out, NB369_399.out, NB399_369.out, NB375_399.out, NB399_375.out, NB381_399.out, NB399_381.out, NB387_399.out, NB399_387.out, NB393_399.out, NB399_393.out, hb_⟩)
            · skip
              rintro gb399 w71 ⟨hS_, h0_, h1_, h2_, h3_, h4_, h5_, h6_, h7_, h8_, h9_, h10_, h11_, h12_, h13_, h14_, h15_, h16_, h17_, h18_, h19_, h20_, h21_⟩
              have n0_ : Aside0 (w71.heap[gb359]? = some (.cells #[.int .u32 a0_0, .int .u32 a0_1, .int .u32 a0_2, .int .i32 a0_3, .int .i32 a0_4, .int .i32 a0_5] 39 (0, 0))) := ⟨h0_⟩
              have n1_ : Aside0 (w71.heap[gb369]? = some (.cells #[.int .i64 t364, .int .i64 t365, .int .i64 t366, .int .i64 t367] 25 (0, 0))) := ⟨h1_⟩
              have n2_ : Aside0 (w71.heap[gb375]? = some (.cells #[.int .i64 t370, .int .i64 t371, .int .i64 t372, .int .i64 t373] 25 (0, 0))) := ⟨h2_⟩
              have n3_ : Aside0 (w71.heap[gb381]? = some (.cells #[.int .i64 t376, .int .i64 t377, .int .i64 t378, .int .i64 t379] 25 (0, 0))) := ⟨h3_⟩
              have n4_ : Aside0 (w71.heap[gb387]? = some (.cells #[.int .i64 t382, .int .i64 t383, .int .i64 t384, .int .i64 t385] 25 (0, 0))) := ⟨h4_⟩
              have n5_ : Aside0 (w71.heap[gb393]? = some (.cells #[.int .i64 t388, .int .i64 t389, .int .i64 t390, .int .i64 t391] 25 (0, 0))) := ⟨h5_⟩
              have n6_ : Aside0 (w71.heap[gb399]? = some (.cells #[.int .i64 0, .int .i64 0] 34 (0, 0))) := ⟨h6_⟩
              have n7_ : Aside0 (w.heap.size ≤ gb399) := ⟨h7_⟩
              have n8_ : Aside0 (w.heap.size ≤ gb399) := ⟨h8_⟩
              have n9_ : Aside0 (gb359 ≠ gb399) := ⟨h9_⟩
              have n10_ : Aside0 (gb399 ≠ gb359) := ⟨h10_⟩
              have n11_ : Aside0 (gb369 ≠ gb399) := ⟨h11_⟩
              have n12_ : Aside0 (gb399 ≠ gb369) := ⟨h12_⟩
              have n13_ : Aside0 (gb375 ≠ gb399) := ⟨h13_⟩
              have n14_ : Aside0 (gb399 ≠ gb375) := ⟨h14_⟩
              have n15_ : Aside0 (gb381 ≠ gb399) := ⟨h15_⟩
              have n16_ : Aside0 (gb399 ≠ gb381) := ⟨h16_⟩
              have n17_ : Aside0 (gb387 ≠ gb399) := ⟨h17_⟩
              have n18_ : Aside0 (gb399 ≠ gb387) := ⟨h18_⟩
              have n19_ : Aside0 (gb393 ≠ gb399) := ⟨h19_⟩
              have n20_ : Aside0 (gb399 ≠ gb393) := ⟨h20_⟩
              have n21_ : Aside0 (Below w.heap.size w w71) := ⟨h21_⟩
              clear BK359
              clear BK369
              clear BK375
              clear BK381
              clear BK387
              clear BK393
              clear HB
              clear h0_ h1_ h2_ h3_ h4_ h5_ h6_ h7_ h8_ h9_ h10_ h11_ h12_ h13_ h14_ h15_ h16_ h17_ h18_ h19_ h20_ h21_
              have BK359 := n0_
              have BK369 := n1_
              have BK375 := n2_
              have BK381 := n3_
              have BK387 := n4_
              have BK393 := n5_
              have BK399 := n6_
              have GW399 := n7_
              have GE399 := n8_
              have NB359_399 := n9_
              have NB399_359 := n10_
              have NB369_399 := n11_
              have NB399_369 := n12_
              have NB375_399 := n13_
              have NB399_375 := n14_
              have NB381_399 := n15_
              have NB399_381 := n16_
              have NB387_399 := n17_
              have NB399_387 := n18_
              have NB393_399 := n19_
              have NB399_393 := n20_
              have HB := n21_
              clear n0_ n1_ n2_ n3_ n4_ n5_ n6_ n7_ n8_ n9_ n10_ n11_ n12_ n13_ n14_ n15_ n16_ n17_ n18_ n19_ n20_ n21_
              have hHeld : w71.cell? ⟨gb369, 0, none⟩ = some (.int .i64 t364) ∧ w71.cell? ⟨gb369, 1, none⟩ = some (.int .i64 t365) ∧ w71.cell? ⟨gb369, 2, none⟩ = some (.int .i64 t366) ∧ w71.cell? ⟨gb369, 3, none⟩ = some (.int .i64 t367) ∧ w71.cell? ⟨gb381, 0, none⟩ = some (.int .i64 t376) ∧ w71.cell? ⟨gb381, 1, none⟩ = some (.int .i64 t377) ∧ w71.cell? ⟨gb381, 2, none⟩ = some (.int .i64 t378) ∧ w71.cell? ⟨gb381, 3, none⟩ = some (.int .i64 t379) := hS_
              refine norm_ (a' := ?_) ?_ ?_
              rotate_left
              · simp only [putAll, Act.put, z1, z2, z3]
                rfl
              refine one_ (i := 4) (N := some 20) b9_3 rfl rfl (one_of HT_.out (by kernel_rfl)) (by decide) (fun K hK => ?_)
              refine box_step ?hg (N := 20) ?hd (cs := #[.int .i64 0, .int .i64 0]) (t := 34) ?hr ?_; (case hd => rfl); (case hg => rfl); (case hr => first | (go_simp; done) | (go_simp; rfl))
              intro gb398 hg w72 hbox hb
              have n0_ := Aside0.mk (bb BK359.out hb)
              have n1_ := Aside0.mk (bb BK369.out hb)
              have n2_ := Aside0.mk (bb BK375.out hb)
              have n3_ := Aside0.mk (bb BK381.out hb)
              have n4_ := Aside0.mk (bb BK387.out hb)
              have n5_ := Aside0.mk (bb BK393.out hb)
              have n6_ := Aside0.mk (bb BK399.out hb)
              have n7_ := Aside0.mk (below_step hb_ hb)
              have n8_ := Aside0.mk (hbox)
              have n9_ := Aside0.mk ((by rw [hg]; exact (below_size hb_) : w.heap.size ≤ gb398))
              have n10_ := Aside0.mk ((by rw [hg]; exact (below_size hb_) : w.heap.size ≤ gb398))
              have n11_ := Aside0.mk ((by rw [hg]; exact Nat.ne_of_lt (bl BK359.out) : gb359 ≠ gb398))
              have n12_ := Aside0.mk ((by rw [hg]; exact Nat.ne_of_gt (bl BK359.out) : gb398 ≠ gb359))
              have n13_ := Aside0.mk ((by rw [hg]; exact Nat.ne_of_lt (bl BK369.out) : gb369 ≠ gb398))
              have n14_ := Aside0.mk ((by rw [hg]; exact Nat.ne_of_gt (bl BK369.out) : gb398 ≠ gb369))
              have n15_ := Aside0.mk ((by rw [hg]; exact Nat.ne_of_lt (bl BK375.out) : gb375 ≠ gb398))
              have n16_ := Aside0.mk ((by rw [hg]; exact Nat.ne_of_gt (bl BK375.out) : gb398 ≠ gb375))
              have n17_ := Aside0.mk ((by rw [hg]; exact Nat.ne_of_lt (bl BK381.out) : gb381 ≠ gb398))
              have n18_ := Aside0.mk ((by rw [hg]; exact Nat.ne_of_gt (bl BK381.out) : gb398 ≠ gb381))
              have n19_ := Aside0.mk ((by rw [hg]; exact Nat.ne_of_lt (bl BK387.out) : gb387 ≠ gb398))
              have n20_ := Aside0.mk ((by rw [hg]; exact Nat.ne_of_gt (bl BK387.out) : gb398 ≠ gb387))
              have n21_ := Aside0.mk ((by rw [hg]; exact Nat.ne_of_lt (bl BK393.out) : gb393 ≠ gb398))
              have n22_ := Aside0.mk ((by rw [hg]; exact Nat.ne_of_gt (bl BK393.out) : gb398 ≠ gb393))
              have n23_ := Aside0.mk ((by rw [hg]; exact Nat.ne_of_lt (bl BK399.out) : gb399 ≠ gb398))
              have n24_ := Aside0.mk ((by rw [hg]; exact Nat.ne_of_gt (bl BK399.out) : gb398 ≠ gb399))
              clear BK359
              clear BK369
              clear BK375
              clear BK381
              clear BK387
              clear BK393
              clear BK399
              clear HB
              have BK359 := n0_
              have BK369 := n1_
              have BK375 := n2_
              have BK381 := n3_
              have BK387 := n4_
              have BK393 := n5_
              have BK399 := n6_
              have HB := n7_
              have BK398 := n8_
              have GW398 := n9_
              have GE398 := n10_
              have NB359_398 := n11_
              have NB398_359 := n12_
              have NB369_398 := n13_
              have NB398_369 := n14_
              have NB375_398 := n15_
              have NB398_375 := n16_
              have NB381_398 := n17_
              have NB398_381 := n18_
              have NB387_398 := n19_
              have NB398_387 := n20_
              have NB393_398 := n21_
              have NB398_393 := n22_
              have NB399_398 := n23_
              have NB398_399 := n24_
              clear n0_ n1_ n2_ n3_ n4_ n5_ n6_ n7_ n8_ n9_ n10_ n11_ n12_ n13_ n14_ n15_ n16_ n17_ n18_ n19_ n20_ n21_ n22_ n23_ n24_
              clear hb hbox hg
              refine hK.out _ _ ⟨(blk_cell BK369.out 0).trans rfl, (blk_cell BK369.out 1).trans rfl, (blk_cell BK369.out 2).trans rfl, (blk_cell BK369.out 3).trans rfl, (blk_cell BK381.out 0).trans rfl, (blk_cell BK381.out 1).trans rfl, (blk_cell BK381.out 2).trans rfl, (blk_cell BK381.out 3).trans rfl⟩ (fun hHeld => ?_)
              clear hK K
              refine norm_ (a' := ?_) ?_ ?_
              rotate_left
              · show Act.put _ (some 20) _ = _
                simp only [Act.put, z1, z2, z3, i64_w, i32_w]
                rfl
              exact norm_ (by first | (simp only [putAll, Act.put, z1, z2, z3]; done) | (simp only [putAll, Act.put, z1, z2, z3]; rfl)) (hJ1_3_4_5 (gb398, gb399) _ ⟨hHeld, (bp BK359.out), (bp BK369.out), (bp BK375.out), (bp BK381.out), (bp BK387.out), (bp BK393.out), (bp BK398.out), (bp BK399.out), GW398.out, GE398.out, NB359_398.out, NB398_359.out, NB369_398.out, NB398_369.out, NB375_398.out, NB398_375.out, NB381_398.out, NB398_381.out, NB387_398.out, NB398_387.out, NB393_398.out, NB398_393.out, NB399_398.out, NB398_399.out, GW399.out, GE399.out, NB359_399.out, NB399_359.out, NB369_399.out, NB399_369.out, NB375_399.out, NB399_375.out, NB381_399.out, NB399_381.out, NB387_399.out, NB399_387.out, NB393_399.out, NB399_393.out, hb_⟩)
          · skip
            rintro gb398 w71 ⟨hS_, h0_, h1_, h2_, h3_, h4_, h5_, h6_, h7_, h8_, h9_, h10_, h11_, h12_, h13_, h14_, h15_, h16_, h17_, h18_, h19_, h20_, h21_⟩
            have n0_ : Aside0 (w71.heap[gb359]? = some (.cells #[.int .u32 a0_0, .int .u32 a0_1, .int .u32 a0_2, .int .i32 a0_3, .int .i32 a0_4, .int .i32 a0_5] 39 (0, 0))) := ⟨h0_⟩
            have n1_ : Aside0 (w71.heap[gb369]? = some (.cells #[.int .i64 t364, .int .i64 t365, .int .i64 t366, .int .i64 t367] 25 (0, 0))) := ⟨h1_⟩
            have n2_ : Aside0 (w71.heap[gb375]? = some (.cells #[.int .i64 t370, .int .i64 t371, .int .i64 t372, .int .i64 t373] 25 (0, 0))) := ⟨h2_⟩
            have n3_ : Aside0 (w71.heap[gb381]? = some (.cells #[.int .i64 t376, .int .i64 t377, .int .i64 t378, .int .i64 t379] 25 (0, 0))) := ⟨h3_⟩
            have n4_ : Aside0 (w71.heap[gb387]? = some (.cells #[.int .i64 t382, .int .i64 t383, .int .i64 t384, .int .i64 t385] 25 (0, 0))) := ⟨h4_⟩
            have n5_ : Aside0 (w71.heap[gb393]? = some (.cells #[.int .i64 t388, .int .i64 t389, .int .i64 t390, .int .i64 t391] 25 (0, 0))) := ⟨h5_⟩
            have n6_ : Aside0 (w71.heap[gb398]? = some (.cells #[.int .i64 0, .int .i64 0] 34 (0, 0))) := ⟨h6_⟩
            have n7_ : Aside0 (w.heap.size ≤ gb398) := ⟨h7_⟩
            have n8_ : Aside0 (w.heap.size ≤ gb398) := ⟨h8_⟩
            have n9_ : Aside0 (gb359 ≠ gb398) := ⟨h9_⟩
            have n10_ : Aside0 (gb398 ≠ gb359) := ⟨h10_⟩
            have n11_ : Aside0 (gb369 ≠ gb398) := ⟨h11_⟩
            have n12_ : Aside0 (gb398 ≠ gb369) := ⟨h12_⟩
            have n13_ : Aside0 (gb375 ≠ gb398) := ⟨h13_⟩
            have n14_ : Aside0 (gb398 ≠ gb375) := ⟨h14_⟩
            have n15_ : Aside0 (gb381 ≠ gb398) := ⟨h15_⟩
            have n16_ : Aside0 (gb398 ≠ gb381) := ⟨h16_⟩
            have n17_ : Aside0 (gb387 ≠ gb398) := ⟨h17_⟩
            have n18_ : Aside0 (gb398 ≠ gb387) := ⟨h18_⟩
            have n19_ : Aside0 (gb393 ≠ gb398) := ⟨h19_⟩
            have n20_ : Aside0 (gb398 ≠ gb393) := ⟨h20_⟩
            have n21_ : Aside0 (Below w.heap.size w w71) := ⟨h21_⟩
            clear BK359
            clear BK369
            clear BK375
            clear BK381
            clear BK387
            clear BK393
            clear HB
            clear h0_ h1_ h2_ h3_ h4_ h5_ h6_ h7_ h8_ h9_ h10_ h11_ h12_ h13_ h14_ h15_ h16_ h17_ h18_ h19_ h20_ h21_
            have BK359 := n0_
            have BK369 := n1_
            have BK375 := n2_
            have BK381 := n3_
            have BK387 := n4_
            have BK393 := n5_
            have BK398 := n6_
            have GW398 := n7_
            have GE398 := n8_
            have NB359_398 := n9_
            have NB398_359 := n10_
            have NB369_398 := n11_
            have NB398_369 := n12_
            have NB375_398 := n13_
            have NB398_375 := n14_
            have NB381_398 := n15_
            have NB398_381 := n16_
            have NB387_398 := n17_
            have NB398_387 := n18_
            have NB393_398 := n19_
            have NB398_393 := n20_
            have HB := n21_
            clear n0_ n1_ n2_ n3_ n4_ n5_ n6_ n7_ n8_ n9_ n10_ n11_ n12_ n13_ n14_ n15_ n16_ n17_ n18_ n19_ n20_ n21_
            have hHeld : w71.cell? ⟨gb369, 0, none⟩ = some (.int .i64 t364) ∧ w71.cell? ⟨gb369, 1, none⟩ = some (.int .i64 t365) ∧ w71.cell? ⟨gb369, 2, none⟩ = some (.int .i64 t366) ∧ w71.cell? ⟨gb369, 3, none⟩ = some (.int .i64 t367) ∧ w71.cell? ⟨gb381, 0, none⟩ = some (.int .i64 t376) ∧ w71.cell? ⟨gb381, 1, none⟩ = some (.int .i64 t377) ∧ w71.cell? ⟨gb381, 2, none⟩ = some (.int .i64 t378) ∧ w71.cell? ⟨gb381, 3, none⟩ = some (.int .i64 t379) := hS_
            refine norm_ (a' := ?_) ?_ ?_
            rotate_left
            · simp only [putAll, Act.put, z1, z2, z3]
              rfl
            refine one_ (i := 5) (N := some 21) b9_3 rfl rfl (one_of HT_.out (by kernel_rfl)) (by decide) (fun K hK => ?_)
            refine box_step ?hg (N := 21) ?hd (cs := #[.int .i64 0, .int .i64 0]) (t := 34) ?hr ?_; (case hd => rfl); (case hg => rfl); (case hr => first | (go_simp; done) | (go_simp; rfl))
            intro gb399 hg w72 hbox hb
            have n0_ := Aside0.mk (bb BK359.out hb)
            have n1_ := Aside0.mk (bb BK369.out hb)
            have n2_ := Aside0.mk (bb BK375.out hb)
            have n3_ := Aside0.mk (bb BK381.out hb)
            have n4_ := Aside0.mk (bb BK387.out hb)
            have n5_ := Aside0.mk (bb BK393.out hb)
            have n6_ := Aside0.mk (bb BK398.out hb)
            have n7_ := Aside0.mk (below_step hb_ hb)
            have n8_ := Aside0.mk (hbox)
            have n9_ := Aside0.mk ((by rw [hg]; exact (below_size hb_) : w.heap.size ≤ gb399))
            have n10_ := Aside0.mk ((by rw [hg]; exact (below_size hb_) : w.heap.size ≤ gb399))
            have n11_ := Aside0.mk ((by rw [hg]; exact Nat.ne_of_lt (bl BK359.out) : gb359 ≠ gb399))
            have n12_ := Aside0.mk ((by rw [hg]; exact Nat.ne_of_gt (bl BK359.out) : gb399 ≠ gb359))
            have n13_ := Aside0.mk ((by rw [hg]; exact Nat.ne_of_lt (bl BK369.out) : gb369 ≠ gb399))
            have n14_ := Aside0.mk ((by rw [hg]; exact Nat.ne_of_gt (bl BK369.out) : gb399 ≠ gb369))
            have n15_ := Aside0.mk ((by rw [hg]; exact Nat.ne_of_lt (bl BK375.out) : gb375 ≠ gb399))
            have n16_ := Aside0.mk ((by rw [hg]; exact Nat.ne_of_gt (bl BK375.out) : gb399 ≠ gb375))
            have n17_ := Aside0.mk ((by rw [hg]; exact Nat.ne_of_lt (bl BK381.out) : gb381 ≠ gb399))
            have n18_ := Aside0.mk ((by rw [hg]; exact Nat.ne_of_gt (bl BK381.out) : gb399 ≠ gb381))
            have n19_ := Aside0.mk ((by rw [hg]; exact Nat.ne_of_lt (bl BK387.out) : gb387 ≠ gb399))
            have n20_ := Aside0.mk ((by rw [hg]; exact Nat.ne_of_gt (bl BK387.out) : gb399 ≠ gb387))
            have n21_ := Aside0.mk ((by rw [hg]; exact Nat.ne_of_lt (bl BK393.out) : gb393 ≠ gb399))
            have n22_ := Aside0.mk ((by rw [hg]; exact Nat.ne_of_gt (bl BK393.out) : gb399 ≠ gb393))
            have n23_ := Aside0.mk ((by rw [hg]; exact Nat.ne_of_lt (bl BK398.out) : gb398 ≠ gb399))
            have n24_ := Aside0.mk ((by rw [hg]; exact Nat.ne_of_gt (bl BK398.out) : gb399 ≠ gb398))
            clear BK359
            clear BK369
            clear BK375
            clear BK381
            clear BK387
            clear BK393
            clear BK398
            clear HB
            have BK359 := n0_
            have BK369 := n1_
            have BK375 := n2_
            have BK381 := n3_
            have BK387 := n4_
            have BK393 := n5_
            have BK398 := n6_
            have HB := n7_
            have BK399 := n8_
            have GW399 := n9_
            have GE399 := n10_
            have NB359_399 := n11_
            have NB399_359 := n12_
            have NB369_399 := n13_
            have NB399_369 := n14_
            have NB375_399 := n15_
            have NB399_375 := n16_
            have NB381_399 := n17_
            have NB399_381 := n18_
            have NB387_399 := n19_
            have NB399_387 := n20_
            have NB393_399 := n21_
            have NB399_393 := n22_
            have NB398_399 := n23_
            have NB399_398 := n24_
            clear n0_ n1_ n2_ n3_ n4_ n5_ n6_ n7_ n8_ n9_ n10_ n11_ n12_ n13_ n14_ n15_ n16_ n17_ n18_ n19_ n20_ n21_ n22_ n23_ n24_
            clear hb hbox hg
            refine hK.out _ _ ⟨(blk_cell BK369.out 0).trans rfl, (blk_cell BK369.out 1).trans rfl, (blk_cell BK369.out 2).trans rfl, (blk_cell BK369.out 3).trans rfl, (blk_cell BK381.out 0).trans rfl, (blk_cell BK381.out 1).trans rfl, (blk_cell BK381.out 2).trans rfl, (blk_cell BK381.out 3).trans rfl⟩ (fun hHeld => ?_)
            clear hK K
            refine norm_ (a' := ?_) ?_ ?_
            rotate_left
            · show Act.put _ (some 21) _ = _
              simp only [Act.put, z1, z2, z3, i64_w, i32_w]
              rfl
            exact norm_ (by first | (simp only [putAll, Act.put, z1, z2, z3]; done) | (simp only [putAll, Act.put, z1, z2, z3]; rfl)) (hJ1_3_4_5 (gb398, gb399) _ ⟨hHeld, (bp BK359.out), (bp BK369.out), (bp BK375.out), (bp BK381.out), (bp BK387.out), (bp BK393.out), (bp BK398.out), (bp BK399.out), GW398.out, GE398.out, NB359_398.out, NB398_359.out, NB369_398.out, NB398_369.out, NB375_398.out, NB398_375.out, NB381_398.out, NB398_381.out, NB387_398.out, NB398_387.out, NB393_398.out, NB398_393.out, NB399_398.out, NB398_399.out, GW399.out, GE399.out, NB359_399.out, NB399_359.out, NB369_399.out, NB399_369.out, NB375_399.out, NB399_375.out, NB381_399.out, NB399_381.out, NB387_399.out, NB399_387.out, NB393_399.out, NB399_393.out, hb_⟩)
        rintro ⟨gb398, gb399⟩ w72 ⟨hS_, h0_, h1_, h2_, h3_, h4_, h5_, h6_, h7_, h8_, h9_, h10_, h11_, h12_, h13_, h14_, h15_, h16_, h17_, h18_, h19_, h20_, h21_, h22_, h23_, h24_, h25_, h26_, h27_, h28_, h29_, h30_, h31_, h32_, h33_, h34_, h35_, h36_, h37_, h38_⟩
        have n0_ : Aside0 (w72.heap[gb359]? = some (.cells #[.int .u32 a0_0, .int .u32 a0_1, .int .u32 a0_2, .int .i32 a0_3, .int .i32 a0_4, .int .i32 a0_5] 39 (0, 0))) := ⟨h0_⟩
        have n1_ : Aside0 (w72.heap[gb369]? = some (.cells #[.int .i64 t364, .int .i64 t365, .int .i64 t366, .int .i64 t367] 25 (0, 0))) := ⟨h1_⟩
        have n2_ : Aside0 (w72.heap[gb375]? = some (.cells #[.int .i64 t370, .int .i64 t371, .int .i64 t372, .int .i64 t373] 25 (0, 0))) := ⟨h2_⟩
        have n3_ : Aside0 (w72.heap[gb381]? = some (.cells #[.int .i64 t376, .int .i64 t377, .int .i64 t378, .int .i64 t379] 25 (0, 0))) := ⟨h3_⟩
        have n4_ : Aside0 (w72.heap[gb387]? = some (.cells #[.int .i64 t382, .int .i64 t383, .int .i64 t384, .int .i64 t385] 25 (0, 0))) := ⟨h4_⟩
        have n5_ : Aside0 (w72.heap[gb393]? = some (.cells #[.int .i64 t388, .int .i64 t389, .int .i64 t390, .int .i64 t391] 25 (0, 0))) := ⟨h5_⟩
        have n6_ : Aside0 (w72.heap[gb398]? = some (.cells #[.int .i64 0, .int .i64 0] 34 (0, 0))) := ⟨h6_⟩
        have n7_ : Aside0 (w72.heap[gb399]? = some (.cells #[.int .i64 0, .int .i64 0] 34 (0, 0))) := ⟨h7_⟩
        have n8_ : Aside0 (w.heap.size ≤ gb398) := ⟨h8_⟩
        have n9_ : Aside0 (w.heap.size ≤ gb398) := ⟨h9_⟩
        have n10_ : Aside0 (gb359 ≠ gb398) := ⟨h10_⟩
        have n11_ : Aside0 (gb398 ≠ gb359) := ⟨h11_⟩
        have n12_ : Aside0 (gb369 ≠ gb398) := ⟨h12_⟩
        have n13_ : Aside0 (gb398 ≠ gb369) := ⟨h13_⟩
        have n14_ : Aside0 (gb375 ≠ gb398) := ⟨h14_⟩
        have n15_ : Aside0 (gb398 ≠ gb375) := ⟨h15_⟩
        have n16_ : Aside0 (gb381 ≠ gb398) := ⟨h16_⟩
        have n17_ : Aside0 (gb398 ≠ gb381) := ⟨h17_⟩
        have n18_ : Aside0 (gb387 ≠ gb398) := ⟨h18_⟩
        have n19_ : Aside0 (gb398 ≠ gb387) := ⟨h19_⟩
        have n20_ : Aside0 (gb393 ≠ gb398) := ⟨h20_⟩
        have n21_ : Aside0 (gb398 ≠ gb393) := ⟨h21_⟩
        have n22_ : Aside0 (gb399 ≠ gb398) := ⟨h22_⟩
        have n23_ : Aside0 (gb398 ≠ gb399) := ⟨h23_⟩
        have n24_ : Aside0 (w.heap.size ≤ gb399) := ⟨h24_⟩
        have n25_ : Aside0 (w.heap.size ≤ gb399) := ⟨h25_⟩
        have n26_ : Aside0 (gb359 ≠ gb399) := ⟨h26_⟩
        have n27_ : Aside0 (gb399 ≠ gb359) := ⟨h27_⟩
        have n28_ : Aside0 (gb369 ≠ gb399) := ⟨h28_⟩
        have n29_ : Aside0 (gb399 ≠ gb369) := ⟨h29_⟩
        have n30_ : Aside0 (gb375 ≠ gb399) := ⟨h30_⟩
        have n31_ : Aside0 (gb399 ≠ gb375) := ⟨h31_⟩
        have n32_ : Aside0 (gb381 ≠ gb399) := ⟨h32_⟩
        have n33_ : Aside0 (gb399 ≠ gb381) := ⟨h33_⟩
        have n34_ : Aside0 (gb387 ≠ gb399) := ⟨h34_⟩
        have n35_ : Aside0 (gb399 ≠ gb387) := ⟨h35_⟩
        have n36_ : Aside0 (gb393 ≠ gb399) := ⟨h36_⟩
        have n37_ : Aside0 (gb399 ≠ gb393) := ⟨h37_⟩
        have n38_ : Aside0 (Below w.heap.size w w72) := ⟨h38_⟩
        clear BK359
        clear BK369
        clear BK375
        clear BK381
        clear BK387
        clear BK393
        clear HB
        clear h0_ h1_ h2_ h3_ h4_ h5_ h6_ h7_ h8_ h9_ h10_ h11_ h12_ h13_ h14_ h15_ h16_ h17_ h18_ h19_ h20_ h21_ h22_ h23_ h24_ h25_ h26_ h27_ h28_ h29_ h30_ h31_ h32_ h33_ h34_ h35_ h36_ h37_ h38_
        have BK359 := n0_
        have BK369 := n1_
        have BK375 := n2_
        have BK381 := n3_
        have BK387 := n4_
        have BK393 := n5_
        have BK398 := n6_
        have BK399 := n7_
        have GW398 := n8_
        have GE398 := n9_
        have NB359_398 := n10_
        have NB398_359 := n11_
        have NB369_398 := n12_
        have NB398_369 := n13_
        have NB375_398 := n14_
        have NB398_375 := n15_
        have NB381_398 := n16_
        have NB398_381 := n17_
        have NB387_398 := n18_
        have NB398_387 := n19_
        have NB393_398 := n20_
        have NB398_393 := n21_
        have NB399_398 := n22_
        have NB398_399 := n23_
        have GW399 := n24_
        have GE399 := n25_
        have NB359_399 := n26_
        have NB399_359 := n27_
        have NB369_399 := n28_
        have NB399_369 := n29_
        have NB375_399 := n30_
        have NB399_375 := n31_
        have NB381_399 := n32_
        have NB399_381 := n33_
        have NB387_399 := n34_
        have NB399_387 := n35_
        have NB393_399 := n36_
        have NB399_393 := n37_
        have HB := n38_
        clear n0_ n1_ n2_ n3_ n4_ n5_ n6_ n7_ n8_ n9_ n10_ n11_ n12_ n13_ n14_ n15_ n16_ n17_ n18_ n19_ n20_ n21_ n22_ n23_ n24_ n25_ n26_ n27_ n28_ n29_ n30_ n31_ n32_ n33_ n34_ n35_ n36_ n37_ n38_
        have hHeld : w72.cell? ⟨gb369, 0, none⟩ = some (.int .i64 t364) ∧ w72.cell? ⟨gb369, 1, none⟩ = some (.int .i64 t365) ∧ w72.cell? ⟨gb369, 2, none⟩ = some (.int .i64 t366) ∧ w72.cell? ⟨gb369, 3, none⟩ = some (.int .i64 t367) ∧ w72.cell? ⟨gb381, 0, none⟩ = some (.int .i64 t376) ∧ w72.cell? ⟨gb381, 1, none⟩ = some (.int .i64 t377) ∧ w72.cell? ⟨gb381, 2, none⟩ = some (.int .i64 t378) ∧ w72.cell? ⟨gb381, 3, none⟩ = some (.int .i64 t379) := hS_
        refine norm_ (a' := ?_) ?_ ?_
        rotate_left
        · simp only [putAll, Act.put, z1, z2, z3]
          rfl
        refine one_ (i := 6) (N := none) b9_14 rfl rfl (one_of HT_.out (by kernel_rfl)) (by decide) (fun K hK => ?_)
        have hs73 : w72.cell? ⟨gb398, 0, none⟩ = some (.int .i64 0) := (blk_cell BK398.out 0).trans rfl
        have hfs73 := blk_frozen BK398.out 0
        have hns73_0 := NB359_398.out
        have hns73_1 := NB369_398.out
        have hns73_2 := NB375_398.out
        have hns73_3 := NB381_398.out
        have hns73_4 := NB387_398.out
        have hns73_5 := NB393_398.out
        have hns73_7 := NB399_398.out
        have hms73_0 := NB398_359.out
        have hms73_1 := NB398_369.out
        have hms73_2 := NB398_375.out
        have hms73_3 := NB398_381.out
        have hms73_4 := NB398_387.out
        have hms73_5 := NB398_393.out
        have hms73_7 := NB398_399.out
        have hs74 : w72.cell? ⟨gb398, 1, none⟩ = some (.int .i64 0) := (blk_cell BK398.out 1).trans rfl
        have hfs74 := blk_frozen BK398.out 1
        have hns74_0 := NB359_398.out
        have hns74_1 := NB369_398.out
        have hns74_2 := NB375_398.out
        have hns74_3 := NB381_398.out
        have hns74_4 := NB387_398.out
        have hns74_5 := NB393_398.out
        have hns74_7 := NB399_398.out
        have hms74_0 := NB398_359.out
        have hms74_1 := NB398_369.out
        have hms74_2 := NB398_375.out
        have hms74_3 := NB398_381.out
        have hms74_4 := NB398_387.out
        have hms74_5 := NB398_393.out
        have hms74_7 := NB398_399.out
        refine skip_ (w1 := ?_) (by rfl) rfl ?_ ?_
        rotate_left
        · go_simp
          rfl
        refine hK.out _ _ ⟨((cell_far (p := ⟨gb398, _, none⟩) NB369_398.out _).trans (((cell_far (p := ⟨gb398, _, none⟩) NB369_398.out _).trans (hHeld.1)))), ((cell_far (p := ⟨gb398, _, none⟩) NB369_398.out _).trans (((cell_far (p := ⟨gb398, _, none⟩) NB369_398.out _).trans (hHeld.2.1)))), ((cell_far (p := ⟨gb398, _, none⟩) NB369_398.out _).trans (((cell_far (p := ⟨gb398, _, none⟩) NB369_398.out _).trans (hHeld.2.2.1)))), ((cell_far (p := ⟨gb398, _, none⟩) NB369_398.out _).trans (((cell_far (p := ⟨gb398, _, none⟩) NB369_398.out _).trans (hHeld.2.2.2.1)))), ((cell_far (p := ⟨gb398, _, none⟩) NB381_398.out _).trans (((cell_far (p := ⟨gb398, _, none⟩) NB381_398.out _).trans (hHeld.2.2.2.2.1)))), ((cell_far (p := ⟨gb398, _, none⟩) NB381_398.out _).trans (((cell_far (p := ⟨gb398, _, none⟩) NB381_398.out _).trans (hHeld.2.2.2.2.2.1)))), ((cell_far (p := ⟨gb398, _, none⟩) NB381_398.out _).trans (((cell_far (p := ⟨gb398, _, none⟩) NB381_398.out _).trans (hHeld.2.2.2.2.2.2.1)))), ((cell_far (p := ⟨gb398, _, none⟩) NB381_398.out _).trans (((cell_far (p := ⟨gb398, _, none⟩) NB381_398.out _).trans (hHeld.2.2.2.2.2.2.2))))⟩ (fun hHeld => ?_)
        clear hK K
        refine one_ (i := 7) (N := none) b9_15 rfl rfl (one_of HT_.out (by kernel_rfl)) (by decide) (fun K hK => ?_)
        have hs75 : w72.cell? ⟨gb399, 0, none⟩ = some (.int .i64 0) := (blk_cell BK399.out 0).trans rfl
        have hfs75 := blk_frozen BK399.out 0
        have hns75_0 := NB359_399.out
        have hns75_1 := NB369_399.out
        have hns75_2 := NB375_399.out
        have hns75_3 := NB381_399.out
        have hns75_4 := NB387_399.out
        have hns75_5 := NB393_399.out
        have hns75_6 := NB398_399.out
        have hms75_0 := NB399_359.out
        have hms75_1 := NB399_369.out
        have hms75_2 := NB399_375.out
        have hms75_3 := NB399_381.out
        have hms75_4 := NB399_387.out
        have hms75_5 := NB399_393.out
        have hms75_6 := NB399_398.out
        have hs76 : w72.cell? ⟨gb399, 1, none⟩ = some (.int .i64 0) := (blk_cell BK399.out 1).trans rfl
        have hfs76 := blk_frozen BK399.out 1
        have hns76_0 := NB359_399.out
        have hns76_1 := NB369_399.out
        have hns76_2 := NB375_399.out
        have hns76_3 := NB381_399.out
        have hns76_4 := NB387_399.out
        have hns76_5 := NB393_399.out
        have hns76_6 := NB398_399.out
        have hms76_0 := NB399_359.out
        have hms76_1 := NB399_369.out
        have hms76_2 := NB399_375.out
        have hms76_3 := NB399_381.out
        have hms76_4 := NB399_387.out
        have hms76_5 := NB399_393.out
        have hms76_6 := NB399_398.out
        refine skip_ (w1 := ?_) (by rfl) rfl ?_ ?_
        rotate_left
        · go_simp
          rfl
        refine hK.out _ _ ⟨((cell_far (p := ⟨gb399, _, none⟩) NB369_399.out _).trans (((cell_far (p := ⟨gb399, _, none⟩) NB369_399.out _).trans (hHeld.1)))), ((cell_far (p := ⟨gb399, _, none⟩) NB369_399.out _).trans (((cell_far (p := ⟨gb399, _, none⟩) NB369_399.out _).trans (hHeld.2.1)))), ((cell_far (p := ⟨gb399, _, none⟩) NB369_399.out _).trans (((cell_far (p := ⟨gb399, _, none⟩) NB369_399.out _).trans (hHeld.2.2.1)))), ((cell_far (p := ⟨gb399, _, none⟩) NB369_399.out _).trans (((cell_far (p := ⟨gb399, _, none⟩) NB369_399.out _).trans (hHeld.2.2.2.1)))), ((cell_far (p := ⟨gb399, _, none⟩) NB381_399.out _).trans (((cell_far (p := ⟨gb399, _, none⟩) NB381_399.out _).trans (hHeld.2.2.2.2.1)))), ((cell_far (p := ⟨gb399, _, none⟩) NB381_399.out _).trans (((cell_far (p := ⟨gb399, _, none⟩) NB381_399.out _).trans (hHeld.2.2.2.2.2.1)))), ((cell_far (p := ⟨gb399, _, none⟩) NB381_399.out _).trans (((cell_far (p := ⟨gb399, _, none⟩) NB381_399.out _).trans (hHeld.2.2.2.2.2.2.1)))), ((cell_far (p := ⟨gb399, _, none⟩) NB381_399.out _).trans (((cell_far (p := ⟨gb399, _, none⟩) NB381_399.out _).trans (hHeld.2.2.2.2.2.2.2))))⟩ (fun hHeld => ?_)
        clear hK K
        refine done_ (done_of HT_.out (by kernel_rfl)) ?_
        go_upto_region 10 with (fail)
        go_cut [135] (fun v135 wc => ∃ (kq : Nat) (x135_65 : Bool), v135 = .bool x135_65 ∧ Aside0 (timesynclaw21_SampleWider.j1 kq x135_65 t376 t377 t378 t379 t382 t383 t384 t385 = some r) ∧ Aside0 (kq ≤ kj10) ∧ Aside0 (wc.heap[gb359]? = some (.cells #[.int .u32 a0_0, .int .u32 a0_1, .int .u32 a0_2, .int .i32 a0_3, .int .i32 a0_4, .int .i32 a0_5] 39 (0, 0))) ∧ Aside0 (wc.heap[gb369]? = some (.cells #[.int .i64 t364, .int .i64 t365, .int .i64 t366, .int .i64 t367] 25 (0, 0))) ∧ Aside0 (wc.heap[gb375]? = some (.cells #[.int .i64 t370, .int .i64 t371, .int .i64 t372, .int .i64 t373] 25 (0, 0))) ∧ Aside0 (wc.heap[gb381]? = some (.cells #[.int .i64 t376, .int .i64 t377, .int .i64 t378, .int .i64 t379] 25 (0, 0))) ∧ Aside0 (wc.heap[gb387]? = some (.cells #[.int .i64 t382, .int .i64 t383, .int .i64 t384, .int .i64 t385] 25 (0, 0))) ∧ Aside0 (wc.heap[gb393]? = some (.cells #[.int .i64 t388, .int .i64 t389, .int .i64 t390, .int .i64 t391] 25 (0, 0))) ∧ Aside0 (wc.heap[gb398]? = some (.cells #[.int .i64 t394, .int .i64 t395] 34 (0, 0))) ∧ Aside0 (wc.heap[gb399]? = some (.cells #[.int .i64 t396, .int .i64 t397] 34 (0, 0))) ∧ Aside0 (Below w.heap.size w wc))
        case first =>
          have H := HC66.out
          clear HC66
          by_cases c77 : t396 > t394
          · rw [if_pos c77] at H
            have c77b0 : decide (t394 < t396) = true := decide_eq_true c77
            clear c77
            (first | rw [c77b0] | (simp only [i64_w, i32_w]; rw [c77b0]) | skip)
            have H' := Aside0.mk H
            clear H
            have hnb78 := NB399_359.out
            have hnc78 := NB359_399.out
            have hnb79 := NB399_369.out
            have hnc79 := NB369_399.out
            have hnb80 := NB399_375.out
            have hnc80 := NB375_399.out
            have hnb81 := NB399_381.out
            have hnc81 := NB381_399.out
            have hnb82 := NB399_387.out
            have hnc82 := NB387_399.out
            have hnb83 := NB399_393.out
            have hnc83 := NB393_399.out
            have hnb84 := NB399_398.out
            have hnc84 := NB398_399.out
            obtain ⟨hcz85_0, hcz85_1⟩ := cs2 BK399.out
            obtain ⟨hfz85_0, hfz85_1⟩ := fs2 BK399.out
            have hnb86 := NB398_359.out
            have hnc86 := NB359_398.out
            have hnb87 := NB398_369.out
            have hnc87 := NB369_398.out
            have hnb88 := NB398_375.out
            have hnc88 := NB375_398.out
            have hnb89 := NB398_381.out
            have hnc89 := NB381_398.out
            have hnb90 := NB398_387.out
            have hnc90 := NB387_398.out
            have hnb91 := NB398_393.out
            have hnc91 := NB393_398.out
            obtain ⟨hcz92_0, hcz92_1⟩ := cs2 BK398.out
            obtain ⟨hfz92_0, hfz92_1⟩ := fs2 BK398.out
            go_wp2
            go_meet
            case rel => exact ⟨_, (true), (by first | rfl | (simp; done) | (simp [*]; done)), H', ⟨by have := HJ10.out; first | omega | exact Nat.le_refl _⟩, ⟨bf2 BK359.out NB359_398.out NB359_399.out⟩, ⟨bf2 BK369.out NB369_398.out NB369_399.out⟩, ⟨bf2 BK375.out NB375_398.out NB375_399.out⟩, ⟨bf2 BK381.out NB381_398.out NB381_399.out⟩, ⟨bf2 BK387.out NB387_398.out NB387_399.out⟩, ⟨bf2 BK393.out NB393_398.out NB393_399.out⟩, ⟨by (with_reducible repeat (first | refine blk_drewN ?_ _ | refine blk_drew ?_ | refine blk_alloc ?_ _)); refine blk_far ?_ NB398_399.out _; (with_reducible repeat (first | refine blk_drewN ?_ _ | refine blk_drew ?_ | refine blk_alloc ?_ _)); refine blk_far ?_ NB398_399.out _; (with_reducible repeat (first | refine blk_drewN ?_ _ | refine blk_drew ?_ | refine blk_alloc ?_ _)); refine blk_put (cs := #[.int .i64 t394, .int .i64 0]) ?_ 1 _ rfl; (with_reducible repeat (first | refine blk_drewN ?_ _ | refine blk_drew ?_ | refine blk_alloc ?_ _)); refine blk_put (cs := #[.int .i64 0, .int .i64 0]) ?_ 0 _ rfl; (with_reducible repeat (first | refine blk_drewN ?_ _ | refine blk_drew ?_ | refine blk_alloc ?_ _)); exact BK398.out⟩, ⟨by (with_reducible repeat (first | refine blk_drewN ?_ _ | refine blk_drew ?_ | refine blk_alloc ?_ _)); refine blk_put (cs := #[.int .i64 t396, .int .i64 0]) ?_ 1 _ rfl; (with_reducible repeat (first | refine blk_drewN ?_ _ | refine blk_drew ?_ | refine blk_alloc ?_ _)); refine blk_put (cs := #[.int .i64 0, .int .i64 0]) ?_ 0 _ rfl; (with_reducible repeat (first | refine blk_drewN ?_ _ | refine blk_drew ?_ | refine blk_alloc ?_ _)); refine blk_far ?_ NB399_398.out _; (with_reducible repeat (first | refine blk_drewN ?_ _ | refine blk_drew ?_ | refine blk_alloc ?_ _)); refine blk_far ?_ NB399_398.out _; (with_reducible repeat (first | refine blk_drewN ?_ _ | refine blk_drew ?_ | refine blk_alloc ?_ _)); exact BK399.out⟩, ⟨hb_⟩⟩
          · rw [if_neg c77] at H
            have c77b0 : decide (t394 < t396) = false := decide_eq_false c77
            clear c77
            (first | rw [c77b0] | (simp only [i64_w, i32_w]; rw [c77b0]) | skip)
            by_cases c93 : t397 < t395
            · rw [if_pos c93] at H
              have c93b0 : decide (t397 < t395) = true := decide_eq_true c93
              clear c93
              have H' := Aside0.mk H
              clear H
              have hnb94 := NB399_359.out
              have hnc94 := NB359_399.out
              have hnb95 := NB399_369.out
              have hnc95 := NB369_399.out
              have hnb96 := NB399_375.out
              have hnc96 := NB375_399.out
              have hnb97 := NB399_381.out
              have hnc97 := NB381_399.out
              have hnb98 := NB399_387.out
              have hnc98 := NB387_399.out
              have hnb99 := NB399_393.out
              have hnc99 := NB393_399.out
              have hnb100 := NB399_398.out
              have hnc100 := NB398_399.out
              obtain ⟨hcz101_0, hcz101_1⟩ := cs2 BK399.out
              obtain ⟨hfz101_0, hfz101_1⟩ := fs2 BK399.out
              have hnb102 := NB398_359.out
              have hnc102 := NB359_398.out
              have hnb103 := NB398_369.out
              have hnc103 := NB369_398.out
              have hnb104 := NB398_375.out
              have hnc104 := NB375_398.out
              have hnb105 := NB398_381.out
              have hnc105 := NB381_398.out
              have hnb106 := NB398_387.out
              have hnc106 := NB387_398.out
              have hnb107 := NB398_393.out
              have hnc107 := NB393_398.out
              obtain ⟨hcz108_0, hcz108_1⟩ := cs2 BK398.out
              obtain ⟨hfz108_0, hfz108_1⟩ := fs2 BK398.out
              go_wp2
              go_meet
              case rel => exact ⟨_, (true), (by first | rfl | (simp; done) | (simp [*]; done)), H', ⟨by have := HJ10.out; first | omega | exact Nat.le_refl _⟩, ⟨bf2 BK359.out NB359_398.out NB359_399.out⟩, ⟨bf2 BK369.out NB369_398.out NB369_399.out⟩, ⟨bf2 BK375.out NB375_398.out NB375_399.out⟩, ⟨bf2 BK381.out NB381_398.out NB381_399.out⟩, ⟨bf2 BK387.out NB387_398.out NB387_399.out⟩, ⟨bf2 BK393.out NB393_398.out NB393_399.out⟩, ⟨by (with_reducible repeat (first | refine blk_drewN ?_ _ | refine blk_drew ?_ | refine blk_alloc ?_ _)); refine blk_far ?_ NB398_399.out _; (with_reducible repeat (first | refine blk_drewN ?_ _ | refine blk_drew ?_ | refine blk_alloc ?_ _)); refine blk_far ?_ NB398_399.out _; (with_reducible repeat (first | refine blk_drewN ?_ _ | refine blk_drew ?_ | refine blk_alloc ?_ _)); refine blk_put (cs := #[.int .i64 t394, .int .i64 0]) ?_ 1 _ rfl; (with_reducible repeat (first | refine blk_drewN ?_ _ | refine blk_drew ?_ | refine blk_alloc ?_ _)); refine blk_put (cs := #[.int .i64 0, .int .i64 0]) ?_ 0 _ rfl; (with_reducible repeat (first | refine blk_drewN ?_ _ | refine blk_drew ?_ | refine blk_alloc ?_ _)); exact BK398.out⟩, ⟨by (with_reducible repeat (first | refine blk_drewN ?_ _ | refine blk_drew ?_ | refine blk_alloc ?_ _)); refine blk_put (cs := #[.int .i64 t396, .int .i64 0]) ?_ 1 _ rfl; (with_reducible repeat (first | refine blk_drewN ?_ _ | refine blk_drew ?_ | refine blk_alloc ?_ _)); refine blk_put (cs := #[.int .i64 0, .int .i64 0]) ?_ 0 _ rfl; (with_reducible repeat (first | refine blk_drewN ?_ _ | refine blk_drew ?_ | refine blk_alloc ?_ _)); refine blk_far ?_ NB399_398.out _; (with_reducible repeat (first | refine blk_drewN ?_ _ | refine blk_drew ?_ | refine blk_alloc ?_ _)); refine blk_far ?_ NB399_398.out _; (with_reducible repeat (first | refine blk_drewN ?_ _ | refine blk_drew ?_ | refine blk_alloc ?_ _)); exact BK399.out⟩, ⟨hb_⟩⟩
            · rw [if_neg c93] at H
              have c93b0 : decide (t397 < t395) = false := decide_eq_false c93
              clear c93
              by_cases c109 : t376 = t364
              · rw [if_pos c109] at H
                have c109b0 : (t376 == t364) = true := beq_iff_eq.mpr c109
                have c109b1 : (t376 != t364) = false := bne_eq_false_iff_eq.mpr c109
                clear c109
                by_cases c110 : t377 = t365
                · rw [if_pos c110] at H
                  have c110b0 : (t377 == t365) = true := beq_iff_eq.mpr c110
                  have c110b1 : (t377 != t365) = false := bne_eq_false_iff_eq.mpr c110
                  clear c110
                  have H' := Aside0.mk H
                  clear H
                  have hnb111 := NB399_359.out
                  have hnc111 := NB359_399.out
                  have hnb112 := NB399_369.out
                  have hnc112 := NB369_399.out
                  have hnb113 := NB399_375.out
                  have hnc113 := NB375_399.out
                  have hnb114 := NB399_381.out
                  have hnc114 := NB381_399.out
                  have hnb115 := NB399_387.out
                  have hnc115 := NB387_399.out
                  have hnb116 := NB399_393.out
                  have hnc116 := NB393_399.out
                  have hnb117 := NB399_398.out
                  have hnc117 := NB398_399.out
                  obtain ⟨hcz118_0, hcz118_1⟩ := cs2 BK399.out
                  obtain ⟨hfz118_0, hfz118_1⟩ := fs2 BK399.out
                  have hnb119 := NB398_359.out
                  have hnc119 := NB359_398.out
                  have hnb120 := NB398_369.out
                  have hnc120 := NB369_398.out
                  have hnb121 := NB398_375.out
                  have hnc121 := NB375_398.out
                  have hnb122 := NB398_381.out
                  have hnc122 := NB381_398.out
                  have hnb123 := NB398_387.out
                  have hnc123 := NB387_398.out
                  have hnb124 := NB398_393.out
                  have hnc124 := NB393_398.out
                  obtain ⟨hcz125_0, hcz125_1⟩ := cs2 BK398.out
                  obtain ⟨hfz125_0, hfz125_1⟩ := fs2 BK398.out
                  have hnb126 := NB381_359.out
                  have hnc126 := NB359_381.out
                  have hnb127 := NB381_369.out
                  have hnc127 := NB369_381.out
                  have hnb128 := NB381_375.out
                  have hnc128 := NB375_381.out
                  have hnb129 := NB381_387.out
                  have hnc129 := NB387_381.out
                  have hnb130 := NB381_393.out
                  have hnc130 := NB393_381.out
                  obtain ⟨hcz131_0, hcz131_1, hcz131_2, hcz131_3⟩ := cs4 BK381.out
                  obtain ⟨hfz131_0, hfz131_1, hfz131_2, hfz131_3⟩ := fs4 BK381.out
                  have hnb132 := NB369_359.out
                  have hnc132 := NB359_369.out
                  have hnb133 := NB369_375.out
                  have hnc133 := NB375_369.out
                  have hnb134 := NB369_387.out
                  have hnc134 := NB387_369.out
                  have hnb135 := NB369_393.out
                  have hnc135 := NB393_369.out
                  obtain ⟨hcz136_0, hcz136_1, hcz136_2, hcz136_3⟩ := cs4 BK369.out
                  obtain ⟨hfz136_0, hfz136_1, hfz136_2, hfz136_3⟩ := fs4 BK369.out
                  have hnb137 := NB387_359.out
                  have hnc137 := NB359_387.out
                  have hnb138 := NB387_375.out
                  have hnc138 := NB375_387.out
                  have hnb139 := NB387_393.out
                  have hnc139 := NB393_387.out
                  obtain ⟨hcz140_0, hcz140_1, hcz140_2, hcz140_3⟩ := cs4 BK387.out
                  obtain ⟨hfz140_0, hfz140_1, hfz140_2, hfz140_3⟩ := fs4 BK387.out
                  go_wp2
                  go_meet
                  case rel => exact ⟨_, ((t379 != t385)), (by first | rfl | (simp; done) | (simp [*]; done)), H', ⟨by have := HJ10.out; first | omega | exact Nat.le_refl _⟩, ⟨bf2 BK359.out NB359_398.out NB359_399.out⟩, ⟨bf2 BK369.out NB369_398.out NB369_399.out⟩, ⟨bf2 BK375.out NB375_398.out NB375_399.out⟩, ⟨bf2 BK381.out NB381_398.out NB381_399.out⟩, ⟨bf2 BK387.out NB387_398.out NB387_399.out⟩, ⟨bf2 BK393.out NB393_398.out NB393_399.out⟩, ⟨by (with_reducible repeat (first | refine blk_drewN ?_ _ | refine blk_drew ?_ | refine blk_alloc ?_ _)); refine blk_far ?_ NB398_399.out _; (with_reducible repeat (first | refine blk_drewN ?_ _ | refine blk_drew ?_ | refine blk_alloc ?_ _)); refine blk_far ?_ NB398_399.out _; (with_reducible repeat (first | refine blk_drewN ?_ _ | refine blk_drew ?_ | refine blk_alloc ?_ _)); refine blk_put (cs := #[.int .i64 t394, .int .i64 0]) ?_ 1 _ rfl; (with_reducible repeat (first | refine blk_drewN ?_ _ | refine blk_drew ?_ | refine blk_alloc ?_ _)); refine blk_put (cs := #[.int .i64 0, .int .i64 0]) ?_ 0 _ rfl; (with_reducible repeat (first | refine blk_drewN ?_ _ | refine blk_drew ?_ | refine blk_alloc ?_ _)); exact BK398.out⟩, ⟨by (with_reducible repeat (first | refine blk_drewN ?_ _ | refine blk_drew ?_ | refine blk_alloc ?_ _)); refine blk_put (cs := #[.int .i64 t396, .int .i64 0]) ?_ 1 _ rfl; (with_reducible repeat (first | refine blk_drewN ?_ _ | refine blk_drew ?_ | refine blk_alloc ?_ _)); refine blk_put (cs := #[.int .i64 0, .int .i64 0]) ?_ 0 _ rfl; (with_reducible repeat (first | refine blk_drewN ?_ _ | refine blk_drew ?_ | refine blk_alloc ?_ _)); refine blk_far ?_ NB399_398.out _; (with_reducible repeat (first | refine blk_drewN ?_ _ | refine blk_drew ?_ | refine blk_alloc ?_ _)); refine blk_far ?_ NB399_398.out _; (with_reducible repeat (first | refine blk_drewN ?_ _ | refine blk_drew ?_ | refine blk_alloc ?_ _)); exact BK399.out⟩, ⟨hb_⟩⟩
                · rw [if_neg c110] at H
                  have c110b0 : (t377 == t365) = false := beq_eq_false_iff_ne.mpr c110
                  have c110b1 : (t377 != t365) = true := bne_iff_ne.mpr c110
                  have H' := Aside0.mk H
                  clear H
                  have hnb141 := NB399_359.out
                  have hnc141 := NB359_399.out
                  have hnb142 := NB399_369.out
                  have hnc142 := NB369_399.out
                  have hnb143 := NB399_375.out
                  have hnc143 := NB375_399.out
                  have hnb144 := NB399_381.out
                  have hnc144 := NB381_399.out
                  have hnb145 := NB399_387.out
                  have hnc145 := NB387_399.out
                  have hnb146 := NB399_393.out
                  have hnc146 := NB393_399.out
                  have hnb147 := NB399_398.out
                  have hnc147 := NB398_399.out
                  obtain ⟨hcz148_0, hcz148_1⟩ := cs2 BK399.out
                  obtain ⟨hfz148_0, hfz148_1⟩ := fs2 BK399.out
                  have hnb149 := NB398_359.out
                  have hnc149 := NB359_398.out
                  have hnb150 := NB398_369.out
                  have hnc150 := NB369_398.out
                  have hnb151 := NB398_375.out
                  have hnc151 := NB375_398.out
                  have hnb152 := NB398_381.out
                  have hnc152 := NB381_398.out
                  have hnb153 := NB398_387.out
                  have hnc153 := NB387_398.out
                  have hnb154 := NB398_393.out
                  have hnc154 := NB393_398.out
                  obtain ⟨hcz155_0, hcz155_1⟩ := cs2 BK398.out
                  obtain ⟨hfz155_0, hfz155_1⟩ := fs2 BK398.out
                  have hnb156 := NB381_359.out
                  have hnc156 := NB359_381.out
                  have hnb157 := NB381_369.out
                  have hnc157 := NB369_381.out
                  have hnb158 := NB381_375.out
                  have hnc158 := NB375_381.out
                  have hnb159 := NB381_387.out
                  have hnc159 := NB387_381.out
                  have hnb160 := NB381_393.out
                  have hnc160 := NB393_381.out
                  obtain ⟨hcz161_0, hcz161_1, hcz161_2, hcz161_3⟩ := cs4 BK381.out
                  obtain ⟨hfz161_0, hfz161_1, hfz161_2, hfz161_3⟩ := fs4 BK381.out
                  have hnb162 := NB369_359.out
                  have hnc162 := NB359_369.out
                  have hnb163 := NB369_375.out
                  have hnc163 := NB375_369.out
                  have hnb164 := NB369_387.out
                  have hnc164 := NB387_369.out
                  have hnb165 := NB369_393.out
                  have hnc165 := NB393_369.out
                  obtain ⟨hcz166_0, hcz166_1, hcz166_2, hcz166_3⟩ := cs4 BK369.out
                  obtain ⟨hfz166_0, hfz166_1, hfz166_2, hfz166_3⟩ := fs4 BK369.out
                  go_wp2
                  go_meet
                  case rel => exact ⟨_, (true), (by first | rfl | (simp; done) | (simp [*]; done)), H', ⟨by have := HJ10.out; first | omega | exact Nat.le_refl _⟩, ⟨bf2 BK359.out NB359_398.out NB359_399.out⟩, ⟨bf2 BK369.out NB369_398.out NB369_399.out⟩, ⟨bf2 BK375.out NB375_398.out NB375_399.out⟩, ⟨bf2 BK381.out NB381_398.out NB381_399.out⟩, ⟨bf2 BK387.out NB387_398.out NB387_399.out⟩, ⟨bf2 BK393.out NB393_398.out NB393_399.out⟩, ⟨by (with_reducible repeat (first | refine blk_drewN ?_ _ | refine blk_drew ?_ | refine blk_alloc ?_ _)); refine blk_far ?_ NB398_399.out _; (with_reducible repeat (first | refine blk_drewN ?_ _ | refine blk_drew ?_ | refine blk_alloc ?_ _)); refine blk_far ?_ NB398_399.out _; (with_reducible repeat (first | refine blk_drewN ?_ _ | refine blk_drew ?_ | refine blk_alloc ?_ _)); refine blk_put (cs := #[.int .i64 t394, .int .i64 0]) ?_ 1 _ rfl; (with_reducible repeat (first | refine blk_drewN ?_ _ | refine blk_drew ?_ | refine blk_alloc ?_ _)); refine blk_put (cs := #[.int .i64 0, .int .i64 0]) ?_ 0 _ rfl; (with_reducible repeat (first | refine blk_drewN ?_ _ | refine blk_drew ?_ | refine blk_alloc ?_ _)); exact BK398.out⟩, ⟨by (with_reducible repeat (first | refine blk_drewN ?_ _ | refine blk_drew ?_ | refine blk_alloc ?_ _)); refine blk_put (cs := #[.int .i64 t396, .int .i64 0]) ?_ 1 _ rfl; (with_reducible repeat (first | refine blk_drewN ?_ _ | refine blk_drew ?_ | refine blk_alloc ?_ _)); refine blk_put (cs := #[.int .i64 0, .int .i64 0]) ?_ 0 _ rfl; (with_reducible repeat (first | refine blk_drewN ?_ _ | refine blk_drew ?_ | refine blk_alloc ?_ _)); refine blk_far ?_ NB399_398.out _; (with_reducible repeat (first | refine blk_drewN ?_ _ | refine blk_drew ?_ | refine blk_alloc ?_ _)); refine blk_far ?_ NB399_398.out _; (with_reducible repeat (first | refine blk_drewN ?_ _ | refine blk_drew ?_ | refine blk_alloc ?_ _)); exact BK399.out⟩, ⟨hb_⟩⟩
              · rw [if_neg c109] at H
                have c109b0 : (t376 == t364) = false := beq_eq_false_iff_ne.mpr c109
                have c109b1 : (t376 != t364) = true := bne_iff_ne.mpr c109
                have H' := Aside0.mk H
                clear H
                have hnb167 := NB399_359.out
                have hnc167 := NB359_399.out
                have hnb168 := NB399_369.out
                have hnc168 := NB369_399.out
                have hnb169 := NB399_375.out
                have hnc169 := NB375_399.out
                have hnb170 := NB399_381.out
                have hnc170 := NB381_399.out
                have hnb171 := NB399_387.out
                have hnc171 := NB387_399.out
                have hnb172 := NB399_393.out
                have hnc172 := NB393_399.out
                have hnb173 := NB399_398.out
                have hnc173 := NB398_399.out
                obtain ⟨hcz174_0, hcz174_1⟩ := cs2 BK399.out
                obtain ⟨hfz174_0, hfz174_1⟩ := fs2 BK399.out
                have hnb175 := NB398_359.out
                have hnc175 := NB359_398.out
                have hnb176 := NB398_369.out
                have hnc176 := NB369_398.out
                have hnb177 := NB398_375.out
                have hnc177 := NB375_398.out
                have hnb178 := NB398_381.out
                have hnc178 := NB381_398.out
                have hnb179 := NB398_387.out
                have hnc179 := NB387_398.out
                have hnb180 := NB398_393.out
                have hnc180 := NB393_398.out
                obtain ⟨hcz181_0, hcz181_1⟩ := cs2 BK398.out
                obtain ⟨hfz181_0, hfz181_1⟩ := fs2 BK398.out
                have hnb182 := NB381_359.out
                have hnc182 := NB359_381.out
                have hnb183 := NB381_369.out
                have hnc183 := NB369_381.out
                have hnb184 := NB381_375.out
                have hnc184 := NB375_381.out
                have hnb185 := NB381_387.out
                have hnc185 := NB387_381.out
                have hnb186 := NB381_393.out
                have hnc186 := NB393_381.out
                obtain ⟨hcz187_0, hcz187_1, hcz187_2, hcz187_3⟩ := cs4 BK381.out
                obtain ⟨hfz187_0, hfz187_1, hfz187_2, hfz187_3⟩ := fs4 BK381.out
                have hnb188 := NB369_359.out
                have hnc188 := NB359_369.out
                have hnb189 := NB369_375.out
                have hnc189 := NB375_369.out
                have hnb190 := NB369_387.out
                have hnc190 := NB387_369.out
                have hnb191 := NB369_393.out
                have hnc191 := NB393_369.out
                obtain ⟨hcz192_0, hcz192_1, hcz192_2, hcz192_3⟩ := cs4 BK369.out
                obtain ⟨hfz192_0, hfz192_1, hfz192_2, hfz192_3⟩ := fs4 BK369.out
                go_wp2
                go_meet
                case rel => exact ⟨_, (true), (by first | rfl | (simp; done) | (simp [*]; done)), H', ⟨by have := HJ10.out; first | omega | exact Nat.le_refl _⟩, ⟨bf2 BK359.out NB359_398.out NB359_399.out⟩, ⟨bf2 BK369.out NB369_398.out NB369_399.out⟩, ⟨bf2 BK375.out NB375_398.out NB375_399.out⟩, ⟨bf2 BK381.out NB381_398.out NB381_399.out⟩, ⟨bf2 BK387.out NB387_398.out NB387_399.out⟩, ⟨bf2 BK393.out NB393_398.out NB393_399.out⟩, ⟨by (with_reducible repeat (first | refine blk_drewN ?_ _ | refine blk_drew ?_ | refine blk_alloc ?_ _)); refine blk_far ?_ NB398_399.out _; (with_reducible repeat (first | refine blk_drewN ?_ _ | refine blk_drew ?_ | refine blk_alloc ?_ _)); refine blk_far ?_ NB398_399.out _; (with_reducible repeat (first | refine blk_drewN ?_ _ | refine blk_drew ?_ | refine blk_alloc ?_ _)); refine blk_put (cs := #[.int .i64 t394, .int .i64 0]) ?_ 1 _ rfl; (with_reducible repeat (first | refine blk_drewN ?_ _ | refine blk_drew ?_ | refine blk_alloc ?_ _)); refine blk_put (cs := #[.int .i64 0, .int .i64 0]) ?_ 0 _ rfl; (with_reducible repeat (first | refine blk_drewN ?_ _ | refine blk_drew ?_ | refine blk_alloc ?_ _)); exact BK398.out⟩, ⟨by (with_reducible repeat (first | refine blk_drewN ?_ _ | refine blk_drew ?_ | refine blk_alloc ?_ _)); refine blk_put (cs := #[.int .i64 t396, .int .i64 0]) ?_ 1 _ rfl; (with_reducible repeat (first | refine blk_drewN ?_ _ | refine blk_drew ?_ | refine blk_alloc ?_ _)); refine blk_put (cs := #[.int .i64 0, .int .i64 0]) ?_ 0 _ rfl; (with_reducible repeat (first | refine blk_drewN ?_ _ | refine blk_drew ?_ | refine blk_alloc ?_ _)); refine blk_far ?_ NB399_398.out _; (with_reducible repeat (first | refine blk_drewN ?_ _ | refine blk_drew ?_ | refine blk_alloc ?_ _)); refine blk_far ?_ NB399_398.out _; (with_reducible repeat (first | refine blk_drewN ?_ _ | refine blk_drew ?_ | refine blk_alloc ?_ _)); exact BK399.out⟩, ⟨hb_⟩⟩
        case rest =>
          clear HC66
          try clear c1
          try clear p2
          try clear c7
          try clear c8
          try clear c9
          try clear c10
          try clear c11
          try clear c12
          try clear c13
          try clear c14
          try clear c15
          try clear c16
          try clear c17
          try clear c18
          try clear c19
          try clear c77
          try clear c77b0
          try clear c78
          try clear c79
          try clear c80
          try clear c81
          try clear c82
          try clear c83
          try clear c84
          try clear c86
          try clear c87
          try clear c88
          try clear c89
          try clear c90
          try clear c91
          try clear c93
          try clear c93b0
          try clear c94
          try clear c95
          try clear c96
          try clear c97
          try clear c98
          try clear c99
          try clear c100
          try clear c102
          try clear c103
          try clear c104
          try clear c105
          try clear c106
          try clear c107
          try clear c109
          try clear c109b0
          try clear c109b1
          try clear c110
          try clear c110b0
          try clear c110b1
          try clear c111
          try clear c112
          try clear c113
          try clear c114
          try clear c115
          try clear c116
          try clear c117
          try clear c119
          try clear c120
          try clear c121
          try clear c122
          try clear c123
          try clear c124
          try clear c126
          try clear c127
          try clear c128
          try clear c129
          try clear c130
          try clear c132
          try clear c133
          try clear c134
          try clear c135
          try clear c137
          try clear c138
          try clear c139
          try clear c141
          try clear c142
          try clear c143
          try clear c144
          try clear c145
          try clear c146
          try clear c147
          try clear c149
          try clear c150
          try clear c151
          try clear c152
          try clear c153
          try clear c154
          try clear c156
          try clear c157
          try clear c158
          try clear c159
          try clear c160
          try clear c162
          try clear c163
          try clear c164
          try clear c165
          try clear c167
          try clear c168
          try clear c169
          try clear c170
          try clear c171
          try clear c172
          try clear c173
          try clear c175
          try clear c176
          try clear c177
          try clear c178
          try clear c179
          try clear c180
          try clear c182
          try clear c183
          try clear c184
          try clear c185
          try clear c186
          try clear c188
          try clear c189
          try clear c190
          try clear c191
          try clear hcz101_0
          try clear hcz101_1
          try clear hcz108_0
          try clear hcz108_1
          try clear hcz118_0
          try clear hcz118_1
          try clear hcz125_0
          try clear hcz125_1
          try clear hcz131_0
          try clear hcz131_1
          try clear hcz131_2
          try clear hcz131_3
          try clear hcz136_0
          try clear hcz136_1
          try clear hcz136_2
          try clear hcz136_3
          try clear hcz140_0
          try clear hcz140_1
          try clear hcz140_2
          try clear hcz140_3
          try clear hcz148_0
          try clear hcz148_1
          try clear hcz155_0
          try clear hcz155_1
          try clear hcz161_0
          try clear hcz161_1
          try clear hcz161_2
          try clear hcz161_3
          try clear hcz166_0
          try clear hcz166_1
          try clear hcz166_2
          try clear hcz166_3
          try clear hcz174_0
          try clear hcz174_1
          try clear hcz181_0
          try clear hcz181_1
          try clear hcz187_0
          try clear hcz187_1
          try clear hcz187_2
          try clear hcz187_3
          try clear hcz192_0
          try clear hcz192_1
          try clear hcz192_2
          try clear hcz192_3
          try clear hcz85_0
          try clear hcz85_1
          try clear hcz92_0
          try clear hcz92_1
          try clear hfz101_0
          try clear hfz101_1
          try clear hfz108_0
          try clear hfz108_1
          try clear hfz118_0
          try clear hfz118_1
          try clear hfz125_0
          try clear hfz125_1
          try clear hfz131_0
          try clear hfz131_1
          try clear hfz131_2
          try clear hfz131_3
          try clear hfz136_0
          try clear hfz136_1
          try clear hfz136_2
          try clear hfz136_3
          try clear hfz140_0
          try clear hfz140_1
          try clear hfz140_2
          try clear hfz140_3
          try clear hfz148_0
          try clear hfz148_1
          try clear hfz155_0
          try clear hfz155_1
          try clear hfz161_0
          try clear hfz161_1
          try clear hfz161_2
          try clear hfz161_3
          try clear hfz166_0
          try clear hfz166_1
          try clear hfz166_2
          try clear hfz166_3
          try clear hfz174_0
          try clear hfz174_1
          try clear hfz181_0
          try clear hfz181_1
          try clear hfz187_0
          try clear hfz187_1
          try clear hfz187_2
          try clear hfz187_3
          try clear hfz192_0
          try clear hfz192_1
          try clear hfz192_2
          try clear hfz192_3
          try clear hfz85_0
          try clear hfz85_1
          try clear hfz92_0
          try clear hfz92_1
          obtain ⟨kq, x135_65, rfl, HA, HJ65, BK359, BK369, BK375, BK381, BK387, BK393, BK398, BK399, HB⟩ := hcut
          cases kq with
          | zero => exact absurd HA.out (by simp [timesynclaw21_SampleWider.j1])
          | succ kj65 =>
            have H := HA.out
            clear HA
            simp only [timesynclaw21_SampleWider.j1] at H
            by_cases c193 : x135_65 = true
            · subst c193
              have H1 : (some false) = some r := by rw [if_pos rfl] at H; exact H
              clear H
              have H := H1
              clear H1
              obtain rfl := Option.some.inj H
              go_wp2
              go_ret
              exact ⟨by first | rfl | (simp [errW_none, errW_some] <;> rfl) | (simp [*, errW_none, errW_some] <;> rfl), hb_⟩
            · replace c193 := Bool.eq_false_iff.mpr c193
              subst c193
              have H1 : (if t378 = t384 then ((timesynclaw21_awake.f kj65).bind fun t400 => (timesynclaw21_SampleWider.j2 kj65 t400)) else (if t378 = (wrap64 (t384 + 1)) then ((timesynclaw21_awake.f kj65).bind fun t401 => (timesynclaw21_SampleWider.j2 kj65 t401)) else (timesynclaw21_SampleWider.j2 kj65 false))) = some r := by rw [if_neg (show ¬ (false = true) by decide)] at H; exact H
              clear H
              have H := H1
              clear H1
              have HC194 := Aside0.mk H
              clear H
              go_upto_region 12 with (fail)
              go_cut [8] (fun v8 wc => ∃ (kq : Nat) (x8_193 : Bool), v8 = .bool x8_193 ∧ Aside0 (timesynclaw21_SampleWider.j2 kq x8_193 = some r) ∧ Aside0 (kq ≤ kj65) ∧ Aside0 (wc.heap[gb359]? = some (.cells #[.int .u32 a0_0, .int .u32 a0_1, .int .u32 a0_2, .int .i32 a0_3, .int .i32 a0_4, .int .i32 a0_5] 39 (0, 0))) ∧ Aside0 (wc.heap[gb369]? = some (.cells #[.int .i64 t364, .int .i64 t365, .int .i64 t366, .int .i64 t367] 25 (0, 0))) ∧ Aside0 (wc.heap[gb375]? = some (.cells #[.int .i64 t370, .int .i64 t371, .int .i64 t372, .int .i64 t373] 25 (0, 0))) ∧ Aside0 (wc.heap[gb381]? = some (.cells #[.int .i64 t376, .int .i64 t377, .int .i64 t378, .int .i64 t379] 25 (0, 0))) ∧ Aside0 (wc.heap[gb387]? = some (.cells #[.int .i64 t382, .int .i64 t383, .int .i64 t384, .int .i64 t385] 25 (0, 0))) ∧ Aside0 (wc.heap[gb393]? = some (.cells #[.int .i64 t388, .int .i64 t389, .int .i64 t390, .int .i64 t391] 25 (0, 0))) ∧ Aside0 (wc.heap[gb398]? = some (.cells #[.int .i64 t394, .int .i64 t395] 34 (0, 0))) ∧ Aside0 (wc.heap[gb399]? = some (.cells #[.int .i64 t396, .int .i64 t397] 34 (0, 0))) ∧ Aside0 (Below w.heap.size w wc))
              case first =>
                have H := HC194.out
                clear HC194
                by_cases c195 : t378 = t384
                · rw [if_pos c195] at H
                  have c195b0 : (t378 == t384) = true := beq_iff_eq.mpr c195
                  have c195b1 : (t378 != t384) = false := bne_eq_false_iff_eq.mpr c195
                  clear c195
                  (first | rw [c195b0] | (simp only [i64_w, i32_w]; rw [c195b0]) | skip)
                  replace H := Option.bind_eq_some_iff.mp H
                  obtain ⟨t400, A1960, H⟩ := H
                  replace H : (timesynclaw21_SampleWider.j2 kj65 t400) = some r := H
                  have A196 := Aside0.mk A1960
                  clear A1960
                  have H' := Aside0.mk H
                  clear H
                  have hnb197 := NB381_359.out
                  have hnc197 := NB359_381.out
                  have hnb198 := NB381_369.out
                  have hnc198 := NB369_381.out
                  have hnb199 := NB381_375.out
                  have hnc199 := NB375_381.out
                  have hnb200 := NB381_387.out
                  have hnc200 := NB387_381.out
                  have hnb201 := NB381_393.out
                  have hnc201 := NB393_381.out
                  have hnb202 := NB381_398.out
                  have hnc202 := NB398_381.out
                  have hnb203 := NB381_399.out
                  have hnc203 := NB399_381.out
                  obtain ⟨hcz204_0, hcz204_1, hcz204_2, hcz204_3⟩ := cs4 BK381.out
                  obtain ⟨hfz204_0, hfz204_1, hfz204_2, hfz204_3⟩ := fs4 BK381.out
                  have hnb205 := NB387_359.out
                  have hnc205 := NB359_387.out
                  have hnb206 := NB387_369.out
                  have hnc206 := NB369_387.out
                  have hnb207 := NB387_375.out
                  have hnc207 := NB375_387.out
                  have hnb208 := NB387_393.out
                  have hnc208 := NB393_387.out
                  have hnb209 := NB387_398.out
                  have hnc209 := NB398_387.out
                  have hnb210 := NB387_399.out
                  have hnc210 := NB399_387.out
                  obtain ⟨hcz211_0, hcz211_1, hcz211_2, hcz211_3⟩ := cs4 BK387.out
                  obtain ⟨hfz211_0, hfz211_1, hfz211_2, hfz211_3⟩ := fs4 BK387.out
                  go_wp2_with (first | (go_at_call 12; (with_reducible refine (timesynclaw21_awake.calls kj65  t400 _ A196.out).mono ?_); rintro e w212 ⟨rfl, hb⟩; have n0_ := Aside0.mk (bb BK359.out hb); have n1_ := Aside0.mk (bb BK369.out hb); have n2_ := Aside0.mk (bb BK375.out hb); have n3_ := Aside0.mk (bb BK381.out hb); have n4_ := Aside0.mk (bb BK387.out hb); have n5_ := Aside0.mk (bb BK393.out hb); have n6_ := Aside0.mk (bb BK398.out hb); have n7_ := Aside0.mk (bb BK399.out hb); have n8_ := Aside0.mk (below_step hb_ hb); clear BK359; clear BK369; clear BK375; clear BK381; clear BK387; clear BK393; clear BK398; clear BK399; clear HB; have BK359 := n0_; have BK369 := n1_; have BK375 := n2_; have BK381 := n3_; have BK387 := n4_; have BK393 := n5_; have BK398 := n6_; have BK399 := n7_; have HB := n8_; clear n0_ n1_ n2_ n3_ n4_ n5_ n6_ n7_ n8_; (try clear hb); (try clear hb2); (try clear hk); (try clear hi)))
                  go_meet
                  case rel => exact ⟨_, (t400), (by first | rfl | (simp; done) | (simp [*]; done)), H', ⟨by have := HJ10.out; have := HJ65.out; first | omega | exact Nat.le_refl _⟩, ⟨bp BK359.out⟩, ⟨bp BK369.out⟩, ⟨bp BK375.out⟩, ⟨bp BK381.out⟩, ⟨bp BK387.out⟩, ⟨bp BK393.out⟩, ⟨bp BK398.out⟩, ⟨bp BK399.out⟩, ⟨hb_⟩⟩
                · rw [if_neg c195] at H
                  have c195b0 : (t378 == t384) = false := beq_eq_false_iff_ne.mpr c195
                  have c195b1 : (t378 != t384) = true := bne_iff_ne.mpr c195
                  (first | rw [c195b0] | (simp only [i64_w, i32_w]; rw [c195b0]) | skip)
                  by_cases c213 : t378 = (wrap64 (t384 + 1))
                  · rw [if_pos c213] at H
                    have c213b0 : (t378 == (wrap64 (t384 + 1))) = true := beq_iff_eq.mpr c213
                    have c213b1 : (t378 != (wrap64 (t384 + 1))) = false := bne_eq_false_iff_eq.mpr c213
                    clear c213
                    replace H := Option.bind_eq_some_iff.mp H
                    obtain ⟨t401, A2140, H⟩ := H
                    replace H : (timesynclaw21_SampleWider.j2 kj65 t401) = some r := H
                    have A214 := Aside0.mk A2140
                    clear A2140
                    have H' := Aside0.mk H
                    clear H
                    have hnb215 := NB381_359.out
                    have hnc215 := NB359_381.out
                    have hnb216 := NB381_369.out
                    have hnc216 := NB369_381.out
                    have hnb217 := NB381_375.out
                    have hnc217 := NB375_381.out
                    have hnb218 := NB381_387.out
                    have hnc218 := NB387_381.out
                    have hnb219 := NB381_393.out
                    have hnc219 := NB393_381.out
                    have hnb220 := NB381_398.out
                    have hnc220 := NB398_381.out
                    have hnb221 := NB381_399.out
                    have hnc221 := NB399_381.out
                    obtain ⟨hcz222_0, hcz222_1, hcz222_2, hcz222_3⟩ := cs4 BK381.out
                    obtain ⟨hfz222_0, hfz222_1, hfz222_2, hfz222_3⟩ := fs4 BK381.out
                    have hnb223 := NB387_359.out
                    have hnc223 := NB359_387.out
                    have hnb224 := NB387_369.out
                    have hnc224 := NB369_387.out
                    have hnb225 := NB387_375.out
                    have hnc225 := NB375_387.out
                    have hnb226 := NB387_393.out
                    have hnc226 := NB393_387.out
                    have hnb227 := NB387_398.out
                    have hnc227 := NB398_387.out
                    have hnb228 := NB387_399.out
                    have hnc228 := NB399_387.out
                    obtain ⟨hcz229_0, hcz229_1, hcz229_2, hcz229_3⟩ := cs4 BK387.out
                    obtain ⟨hfz229_0, hfz229_1, hfz229_2, hfz229_3⟩ := fs4 BK387.out
                    go_wp2_with (first | (go_at_call 12; (with_reducible refine (timesynclaw21_awake.calls kj65  t401 _ A214.out).mono ?_); rintro e w230 ⟨rfl, hb⟩; have n0_ := Aside0.mk (bb BK359.out hb); have n1_ := Aside0.mk (bb BK369.out hb); have n2_ := Aside0.mk (bb BK375.out hb); have n3_ := Aside0.mk (bb BK381.out hb); have n4_ := Aside0.mk (bb BK387.out hb); have n5_ := Aside0.mk (bb BK393.out hb); have n6_ := Aside0.mk (bb BK398.out hb); have n7_ := Aside0.mk (bb BK399.out hb); have n8_ := Aside0.mk (below_step hb_ hb); clear BK359; clear BK369; clear BK375; clear BK381; clear BK387; clear BK393; clear BK398; clear BK399; clear HB; have BK359 := n0_; have BK369 := n1_; have BK375 := n2_; have BK381 := n3_; have BK387 := n4_; have BK393 := n5_; have BK398 := n6_; have BK399 := n7_; have HB := n8_; clear n0_ n1_ n2_ n3_ n4_ n5_ n6_ n7_ n8_; (try clear hb); (try clear hb2); (try clear hk); (try clear hi)))
                    go_meet
                    case rel => exact ⟨_, (t401), (by first | rfl | (simp; done) | (simp [*]; done)), H', ⟨by have := HJ10.out; have := HJ65.out; first | omega | exact Nat.le_refl _⟩, ⟨bp BK359.out⟩, ⟨bp BK369.out⟩, ⟨bp BK375.out⟩, ⟨bp BK381.out⟩, ⟨bp BK387.out⟩, ⟨bp BK393.out⟩, ⟨bp BK398.out⟩, ⟨bp BK399.out⟩, ⟨hb_⟩⟩
                  · rw [if_neg c213] at H
                    have c213b0 : (t378 == (wrap64 (t384 + 1))) = false := beq_eq_false_iff_ne.mpr c213
                    have c213b1 : (t378 != (wrap64 (t384 + 1))) = true := bne_iff_ne.mpr c213
                    have H' := Aside0.mk H
                    clear H
                    have hnb231 := NB381_359.out
                    have hnc231 := NB359_381.out
                    have hnb232 := NB381_369.out
                    have hnc232 := NB369_381.out
                    have hnb233 := NB381_375.out
                    have hnc233 := NB375_381.out
                    have hnb234 := NB381_387.out
                    have hnc234 := NB387_381.out
                    have hnb235 := NB381_393.out
                    have hnc235 := NB393_381.out
                    have hnb236 := NB381_398.out
                    have hnc236 := NB398_381.out
                    have hnb237 := NB381_399.out
                    have hnc237 := NB399_381.out
                    obtain ⟨hcz238_0, hcz238_1, hcz238_2, hcz238_3⟩ := cs4 BK381.out
                    obtain ⟨hfz238_0, hfz238_1, hfz238_2, hfz238_3⟩ := fs4 BK381.out
                    have hnb239 := NB387_359.out
                    have hnc239 := NB359_387.out
                    have hnb240 := NB387_369.out
                    have hnc240 := NB369_387.out
                    have hnb241 := NB387_375.out
                    have hnc241 := NB375_387.out
                    have hnb242 := NB387_393.out
                    have hnc242 := NB393_387.out
                    have hnb243 := NB387_398.out
                    have hnc243 := NB398_387.out
                    have hnb244 := NB387_399.out
                    have hnc244 := NB399_387.out
                    obtain ⟨hcz245_0, hcz245_1, hcz245_2, hcz245_3⟩ := cs4 BK387.out
                    obtain ⟨hfz245_0, hfz245_1, hfz245_2, hfz245_3⟩ := fs4 BK387.out
                    go_wp2
                    go_meet
                    case rel => exact ⟨_, (false), (by first | rfl | (simp; done) | (simp [*]; done)), H', ⟨by have := HJ10.out; have := HJ65.out; first | omega | exact Nat.le_refl _⟩, ⟨bp BK359.out⟩, ⟨bp BK369.out⟩, ⟨bp BK375.out⟩, ⟨bp BK381.out⟩, ⟨bp BK387.out⟩, ⟨bp BK393.out⟩, ⟨bp BK398.out⟩, ⟨bp BK399.out⟩, ⟨hb_⟩⟩
              case rest =>
                clear HC194
                try clear c1
                try clear c2
                try clear p2
                try clear p6
                try clear c7
                try clear c8
                try clear c9
                try clear c10
                try clear c11
                try clear c12
                try clear c13
                try clear c14
                try clear c15
                try clear c16
                try clear c17
                try clear c18
                try clear c19
                try clear c20
                try clear c21
                try clear c22
                try clear c23
                try clear c24
                try clear p64
                try clear c77
                try clear c77b0
                try clear c78
                try clear c79
                try clear c80
                try clear c81
                try clear c82
                try clear c83
                try clear c84
                try clear c86
                try clear c87
                try clear c88
                try clear c89
                try clear c90
                try clear c91
                try clear c93
                try clear c93b0
                try clear c94
                try clear c95
                try clear c96
                try clear c97
                try clear c98
                try clear c99
                try clear c100
                try clear c102
                try clear c103
                try clear c104
                try clear c105
                try clear c106
                try clear c107
                try clear c109
                try clear c109b0
                try clear c109b1
                try clear c110
                try clear c110b0
                try clear c110b1
                try clear c111
                try clear c112
                try clear c113
                try clear c114
                try clear c115
                try clear c116
                try clear c117
                try clear c119
                try clear c120
                try clear c121
                try clear c122
                try clear c123
                try clear c124
                try clear c126
                try clear c127
                try clear c128
                try clear c129
                try clear c130
                try clear c132
                try clear c133
                try clear c134
                try clear c135
                try clear c137
                try clear c138
                try clear c139
                try clear c141
                try clear c142
                try clear c143
                try clear c144
                try clear c145
                try clear c146
                try clear c147
                try clear c149
                try clear c150
                try clear c151
                try clear c152
                try clear c153
                try clear c154
                try clear c156
                try clear c157
                try clear c158
                try clear c159
                try clear c160
                try clear c162
                try clear c163
                try clear c164
                try clear c165
                try clear c167
                try clear c168
                try clear c169
                try clear c170
                try clear c171
                try clear c172
                try clear c173
                try clear c175
                try clear c176
                try clear c177
                try clear c178
                try clear c179
                try clear c180
                try clear c182
                try clear c183
                try clear c184
                try clear c185
                try clear c186
                try clear c188
                try clear c189
                try clear c190
                try clear c191
                try clear c193
                try clear c195
                try clear c195b0
                try clear c195b1
                try clear c197
                try clear c198
                try clear c199
                try clear c200
                try clear c201
                try clear c202
                try clear c203
                try clear c205
                try clear c206
                try clear c207
                try clear c208
                try clear c209
                try clear c210
                try clear c213
                try clear c213b0
                try clear c213b1
                try clear c215
                try clear c216
                try clear c217
                try clear c218
                try clear c219
                try clear c220
                try clear c221
                try clear c223
                try clear c224
                try clear c225
                try clear c226
                try clear c227
                try clear c228
                try clear c231
                try clear c232
                try clear c233
                try clear c234
                try clear c235
                try clear c236
                try clear c237
                try clear c239
                try clear c240
                try clear c241
                try clear c242
                try clear c243
                try clear c244
                try clear hcz101_0
                try clear hcz101_1
                try clear hcz108_0
                try clear hcz108_1
                try clear hcz118_0
                try clear hcz118_1
                try clear hcz125_0
                try clear hcz125_1
                try clear hcz131_0
                try clear hcz131_1
                try clear hcz131_2
                try clear hcz131_3
                try clear hcz136_0
                try clear hcz136_1
                try clear hcz136_2
                try clear hcz136_3
                try clear hcz140_0
                try clear hcz140_1
                try clear hcz140_2
                try clear hcz140_3
                try clear hcz148_0
                try clear hcz148_1
                try clear hcz155_0
                try clear hcz155_1
                try clear hcz161_0
                try clear hcz161_1
                try clear hcz161_2
                try clear hcz161_3
                try clear hcz166_0
                try clear hcz166_1
                try clear hcz166_2
                try clear hcz166_3
                try clear hcz174_0
                try clear hcz174_1
                try clear hcz181_0
                try clear hcz181_1
                try clear hcz187_0
                try clear hcz187_1
                try clear hcz187_2
                try clear hcz187_3
                try clear hcz192_0
                try clear hcz192_1
                try clear hcz192_2
                try clear hcz192_3
                try clear hcz204_0
                try clear hcz204_1
                try clear hcz204_2
                try clear hcz204_3
                try clear hcz211_0
                try clear hcz211_1
                try clear hcz211_2
                try clear hcz211_3
                try clear hcz222_0
                try clear hcz222_1
                try clear hcz222_2
                try clear hcz222_3
                try clear hcz229_0
                try clear hcz229_1
                try clear hcz229_2
                try clear hcz229_3
                try clear hcz238_0
                try clear hcz238_1
                try clear hcz238_2
                try clear hcz238_3
                try clear hcz245_0
                try clear hcz245_1
                try clear hcz245_2
                try clear hcz245_3
                try clear hcz85_0
                try clear hcz85_1
                try clear hcz92_0
                try clear hcz92_1
                try clear hfz101_0
                try clear hfz101_1
                try clear hfz108_0
                try clear hfz108_1
                try clear hfz118_0
                try clear hfz118_1
                try clear hfz125_0
                try clear hfz125_1
                try clear hfz131_0
                try clear hfz131_1
                try clear hfz131_2
                try clear hfz131_3
                try clear hfz136_0
                try clear hfz136_1
                try clear hfz136_2
                try clear hfz136_3
                try clear hfz140_0
                try clear hfz140_1
                try clear hfz140_2
                try clear hfz140_3
                try clear hfz148_0
                try clear hfz148_1
                try clear hfz155_0
                try clear hfz155_1
                try clear hfz161_0
                try clear hfz161_1
                try clear hfz161_2
                try clear hfz161_3
                try clear hfz166_0
                try clear hfz166_1
                try clear hfz166_2
                try clear hfz166_3
                try clear hfz174_0
                try clear hfz174_1
                try clear hfz181_0
                try clear hfz181_1
                try clear hfz187_0
                try clear hfz187_1
                try clear hfz187_2
                try clear hfz187_3
                try clear hfz192_0
                try clear hfz192_1
                try clear hfz192_2
                try clear hfz192_3
                try clear hfz204_0
                try clear hfz204_1
                try clear hfz204_2
                try clear hfz204_3
                try clear hfz211_0
                try clear hfz211_1
                try clear hfz211_2
                try clear hfz211_3
                try clear hfz222_0
                try clear hfz222_1
                try clear hfz222_2
                try clear hfz222_3
                try clear hfz229_0
                try clear hfz229_1
                try clear hfz229_2
                try clear hfz229_3
                try clear hfz238_0
                try clear hfz238_1
                try clear hfz238_2
                try clear hfz238_3
                try clear hfz245_0
                try clear hfz245_1
                try clear hfz245_2
                try clear hfz245_3
                try clear hfz85_0
                try clear hfz85_1
                try clear hfz92_0
                try clear hfz92_1
                try clear p2
                obtain ⟨kq, x8_193, rfl, HA, HJ193, BK359, BK369, BK375, BK381, BK387, BK393, BK398, BK399, HB⟩ := hcut
                cases kq with
                | zero => exact absurd HA.out (by simp [timesynclaw21_SampleWider.j2])
                | succ kj193 =>
                  have H := HA.out
                  clear HA
                  simp only [timesynclaw21_SampleWider.j2] at H
                  obtain rfl := Option.some.inj H
                  go_wp2
                  go_ret
                  exact ⟨by first | rfl | (simp [errW_none, errW_some] <;> rfl) | (simp [*, errW_none, errW_some] <;> rfl), hb_⟩

end Go.Proofs.Ytkldnopfgcenhaa.PAll
