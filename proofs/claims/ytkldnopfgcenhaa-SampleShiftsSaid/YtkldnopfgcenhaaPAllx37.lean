-- A text of this session, written by a program of its own (wip/tools).
import Derived.Test.YtkldnopfgcenhaaPAllx0
import Derived.Test.YtkldnopfgcenhaaPAllx1
import Derived.Test.YtkldnopfgcenhaaPAllx15
import Derived.Test.YtkldnopfgcenhaaPAllx29
import Derived.Test.YtkldnopfgcenhaaPAllx34
namespace Go.Proofs.Ytkldnopfgcenhaa.PAll
open Go.RowKit Go.Proofs.YtkldnopfgcenhaaW.PrintWords Go.Proofs.YtkldnopfgcenhaaW.PrintLast Go.Proofs.YtkldnopfgcenhaaW.PrintMore
attribute [local go_sem] max2_int min2_int max_two min_two max_three min_three max_four min_four   -- for this text's walks alone
set_option linter.unusedVariables false
set_option linter.unusedSimpArgs false

attribute [local go_sem high] eqA25
/-! ### timesynclaw21_SampleShifts: function 7 -/
mutual
def timesynclaw21_SampleShifts.j0 : Nat → Int → Bool → Int → Int → Int → Int → Int → Int → Int → Int → Int → Int → Int → Int → Option (Bool)
  | 0, _, _, _, _, _, _, _, _, _, _, _, _, _, _ => none
  | k + 1, x1, x82, x314000, x314001, x314002, x314003, x320000, x320001, x320002, x320003, x326000, x326001, x326002, x326003 => if x82 = true then (some false) else (if ((wrap64 (x320000 - (wrap64 (x1)))) == x314000 && (x320001 == x314001 && (x320002 == x314002 && (x320003 == x314003)))) = true then (if (x326000 == x314000 && (x326001 == x314001 && (x326002 == x314002 && ((wrap64 (x326003 - (wrap64 (x1)))) == x314003)))) = true then ((timesynclaw21_awake.f k).bind fun t326 => (timesynclaw21_SampleShifts.j1 k t326)) else (timesynclaw21_SampleShifts.j1 k false)) else (timesynclaw21_SampleShifts.j1 k false))
def timesynclaw21_SampleShifts.j1 : Nat → Bool → Option (Bool)
  | 0, _ => none
  | k + 1, x8 => some x8
end
def timesynclaw21_SampleShifts.f (k : Nat) (a0_0 : Int) (a0_1 : Int) (a0_2 : Int) (a0_3 : Int) (a0_4 : Int) (a0_5 : Int) (a1 : Int) (a2 : Int) (a3 : Int) : Option (Bool) := (timesynclaw21_quad.f a0_0 a0_1 a0_2 a0_3 a0_4 a0_5 0).bind fun bt303 => ((sample_Of.f k bt303.1 bt303.2.1 bt303.2.2.1 bt303.2.2.2 (wrap64 ((wrap64 (a2)) + 1)) (Int.tmod (wrap64 (a3)) 500001)).bind fun bt308 => ((sample_Of.f k bt303.1 (wrap64 (bt303.2.1 + (wrap64 (a1)))) (wrap64 (bt303.2.2.1 + (wrap64 (a1)))) bt303.2.2.2 (wrap64 ((wrap64 (a2)) + 1)) (Int.tmod (wrap64 (a3)) 500001)).bind fun bt314 => ((sample_Of.f k (wrap64 (bt303.1 + (wrap64 (a1)))) (wrap64 (bt303.2.1 + (wrap64 (a1)))) (wrap64 (bt303.2.2.1 + (wrap64 (a1)))) (wrap64 (bt303.2.2.2 + (wrap64 (a1)))) (wrap64 ((wrap64 (a2)) + 1)) (Int.tmod (wrap64 (a3)) 500001)).bind fun bt320 => (if bt308.2.2.2.2 = 0 then (if bt314.2.2.2.2 = 0 then (timesynclaw21_SampleShifts.j0 k a1 (bt320.2.2.2.2 != 0) bt308.1 bt308.2.1 bt308.2.2.1 bt308.2.2.2.1 bt314.1 bt314.2.1 bt314.2.2.1 bt314.2.2.2.1 bt320.1 bt320.2.1 bt320.2.2.1 bt320.2.2.2.1) else (timesynclaw21_SampleShifts.j0 k a1 true bt308.1 bt308.2.1 bt308.2.2.1 bt308.2.2.2.1 bt314.1 bt314.2.1 bt314.2.2.1 bt314.2.2.2.1 bt320.1 bt320.2.1 bt320.2.2.1 bt320.2.2.2.1)) else (timesynclaw21_SampleShifts.j0 k a1 true bt308.1 bt308.2.1 bt308.2.2.1 bt308.2.2.2.1 bt314.1 bt314.2.1 bt314.2.2.1 bt314.2.2.2.1 bt320.1 bt320.2.1 bt320.2.2.1 bt320.2.2.2.1)))))
theorem timesynclaw21_SampleShifts.mono_l : ∀ k, (∀ y0 y1 y2 y3 y4 y5 y6 y7 y8 y9 y10 y11 y12 y13, LeO (timesynclaw21_SampleShifts.j0 k y0 y1 y2 y3 y4 y5 y6 y7 y8 y9 y10 y11 y12 y13) (timesynclaw21_SampleShifts.j0 (k + 1) y0 y1 y2 y3 y4 y5 y6 y7 y8 y9 y10 y11 y12 y13)) ∧ (∀ y0, LeO (timesynclaw21_SampleShifts.j1 k y0) (timesynclaw21_SampleShifts.j1 (k + 1) y0))
  | 0 => ⟨fun _ _ _ _ _ _ _ _ _ _ _ _ _ _ r h => by simp [timesynclaw21_SampleShifts.j0] at h, fun _ r h => by simp [timesynclaw21_SampleShifts.j1] at h⟩
  | k + 1 => by
    obtain ⟨ih0, ih1⟩ := timesynclaw21_SampleShifts.mono_l k
    refine ⟨?_, ?_⟩
    · intro y0 y1 y2 y3 y4 y5 y6 y7 y8 y9 y10 y11 y12 y13
      unfold timesynclaw21_SampleShifts.j0
      repeat' first
      | (with_reducible exact ih0 _ _ _ _ _ _ _ _ _ _ _ _ _ _)
      | (with_reducible exact ih1 _)
      | (with_reducible exact sample_Of.mono _ _ _ _ _ _ _)
      | (with_reducible exact timesynclaw21_awake.mono _)
      | (with_reducible exact LeO.refl _)
      | (with_reducible exact LeO.none _)
      | (with_reducible refine LeO.ite ?_ ?_)
      | (with_reducible refine LeO.bind ?_ (fun _ => ?_))
      | exact ih0 _ _ _ _ _ _ _ _ _ _ _ _ _ _
      | exact ih1 _
      | exact sample_Of.mono _ _ _ _ _ _ _
      | exact timesynclaw21_awake.mono _
      | exact LeO.none _
      | refine LeO.ite ?_ ?_
      | refine LeO.bind ?_ (fun _ => ?_)
    · intro y0
      unfold timesynclaw21_SampleShifts.j1
      repeat' first
      | (with_reducible exact ih0 _ _ _ _ _ _ _ _ _ _ _ _ _ _)
      | (with_reducible exact ih1 _)
      | (with_reducible exact sample_Of.mono _ _ _ _ _ _ _)
      | (with_reducible exact timesynclaw21_awake.mono _)
      | (with_reducible exact LeO.refl _)
      | (with_reducible exact LeO.none _)
      | (with_reducible refine LeO.ite ?_ ?_)
      | (with_reducible refine LeO.bind ?_ (fun _ => ?_))
      | exact ih0 _ _ _ _ _ _ _ _ _ _ _ _ _ _
      | exact ih1 _
      | exact sample_Of.mono _ _ _ _ _ _ _
      | exact timesynclaw21_awake.mono _
      | exact LeO.none _
      | refine LeO.ite ?_ ?_
      | refine LeO.bind ?_ (fun _ => ?_)
theorem timesynclaw21_SampleShifts.mono : ∀ a0 a1 a2 a3 a4 a5 a6 a7 a8 k, LeO (timesynclaw21_SampleShifts.f k a0 a1 a2 a3 a4 a5 a6 a7 a8) (timesynclaw21_SampleShifts.f (k + 1) a0 a1 a2 a3 a4 a5 a6 a7 a8) := by
  intro a0 a1 a2 a3 a4 a5 a6 a7 a8 k
  obtain ⟨ih0, ih1⟩ := timesynclaw21_SampleShifts.mono_l k
  unfold timesynclaw21_SampleShifts.f
  repeat' first
      | (with_reducible exact ih0 _ _ _ _ _ _ _ _ _ _ _ _ _ _)
      | (with_reducible exact ih1 _)
      | (with_reducible exact sample_Of.mono _ _ _ _ _ _ _)
      | (with_reducible exact timesynclaw21_awake.mono _)
      | (with_reducible exact LeO.refl _)
      | (with_reducible exact LeO.none _)
      | (with_reducible refine LeO.ite ?_ ?_)
      | (with_reducible refine LeO.bind ?_ (fun _ => ?_))
      | exact ih0 _ _ _ _ _ _ _ _ _ _ _ _ _ _
      | exact ih1 _
      | exact sample_Of.mono _ _ _ _ _ _ _
      | exact timesynclaw21_awake.mono _
      | exact LeO.none _
      | refine LeO.ite ?_ ?_
      | refine LeO.bind ?_ (fun _ => ?_)
set_option maxHeartbeats 8000000 in
set_option maxRecDepth 100000 in
theorem timesynclaw21_SampleShifts.calls (k : Nat) (a0_0 : Int) (a0_1 : Int) (a0_2 : Int) (a0_3 : Int) (a0_4 : Int) (a0_5 : Int) (a1 : Int) (a2 : Int) (a3 : Int) (r : Bool) (w : World) (h : timesynclaw21_SampleShifts.f k a0_0 a0_1 a0_2 a0_3 a0_4 a0_5 a1 a2 a3 = some r) :
    Calls Try.prog 7 #[.agg #[.int .u32 a0_0, .int .u32 a0_1, .int .u32 a0_2, .int .i32 a0_3, .int .i32 a0_4, .int .i32 a0_5], .int .i32 a1, .int .u16 a2, .int .u32 a3] w fun e w' => e = .returned (.bool r) ∧ Below w.heap.size w w' := by
  have hu39 := Try.underlying39
  have hu23 := Try.underlying23
  have hu25 := Try.underlying25
  have HB := Aside0.mk (Below.refl w.heap.size w)
  have H : ((timesynclaw21_quad.f a0_0 a0_1 a0_2 a0_3 a0_4 a0_5 0).bind fun bt303 => ((sample_Of.f k bt303.1 bt303.2.1 bt303.2.2.1 bt303.2.2.2 (wrap64 ((wrap64 (a2)) + 1)) (Int.tmod (wrap64 (a3)) 500001)).bind fun bt308 => ((sample_Of.f k bt303.1 (wrap64 (bt303.2.1 + (wrap64 (a1)))) (wrap64 (bt303.2.2.1 + (wrap64 (a1)))) bt303.2.2.2 (wrap64 ((wrap64 (a2)) + 1)) (Int.tmod (wrap64 (a3)) 500001)).bind fun bt314 => ((sample_Of.f k (wrap64 (bt303.1 + (wrap64 (a1)))) (wrap64 (bt303.2.1 + (wrap64 (a1)))) (wrap64 (bt303.2.2.1 + (wrap64 (a1)))) (wrap64 (bt303.2.2.2 + (wrap64 (a1)))) (wrap64 ((wrap64 (a2)) + 1)) (Int.tmod (wrap64 (a3)) 500001)).bind fun bt320 => (if bt308.2.2.2.2 = 0 then (if bt314.2.2.2.2 = 0 then (timesynclaw21_SampleShifts.j0 k a1 (bt320.2.2.2.2 != 0) bt308.1 bt308.2.1 bt308.2.2.1 bt308.2.2.2.1 bt314.1 bt314.2.1 bt314.2.2.1 bt314.2.2.2.1 bt320.1 bt320.2.1 bt320.2.2.1 bt320.2.2.2.1) else (timesynclaw21_SampleShifts.j0 k a1 true bt308.1 bt308.2.1 bt308.2.2.1 bt308.2.2.2.1 bt314.1 bt314.2.1 bt314.2.2.1 bt314.2.2.2.1 bt320.1 bt320.2.1 bt320.2.2.1 bt320.2.2.2.1)) else (timesynclaw21_SampleShifts.j0 k a1 true bt308.1 bt308.2.1 bt308.2.2.1 bt308.2.2.2.1 bt314.1 bt314.2.1 bt314.2.2.1 bt314.2.2.2.1 bt320.1 bt320.2.1 bt320.2.2.1 bt320.2.2.2.1)))))) = some r := h
  clear h
  replace H := Option.bind_eq_some_iff.mp H
  obtain ⟨⟨t303, t304, t305, t306⟩, A50, H⟩ := H
  replace H : ((sample_Of.f k t303 t304 t305 t306 (wrap64 ((wrap64 (a2)) + 1)) (Int.tmod (wrap64 (a3)) 500001)).bind fun bt308 => ((sample_Of.f k t303 (wrap64 (t304 + (wrap64 (a1)))) (wrap64 (t305 + (wrap64 (a1)))) t306 (wrap64 ((wrap64 (a2)) + 1)) (Int.tmod (wrap64 (a3)) 500001)).bind fun bt314 => ((sample_Of.f k (wrap64 (t303 + (wrap64 (a1)))) (wrap64 (t304 + (wrap64 (a1)))) (wrap64 (t305 + (wrap64 (a1)))) (wrap64 (t306 + (wrap64 (a1)))) (wrap64 ((wrap64 (a2)) + 1)) (Int.tmod (wrap64 (a3)) 500001)).bind fun bt320 => (if bt308.2.2.2.2 = 0 then (if bt314.2.2.2.2 = 0 then (timesynclaw21_SampleShifts.j0 k a1 (bt320.2.2.2.2 != 0) bt308.1 bt308.2.1 bt308.2.2.1 bt308.2.2.2.1 bt314.1 bt314.2.1 bt314.2.2.1 bt314.2.2.2.1 bt320.1 bt320.2.1 bt320.2.2.1 bt320.2.2.2.1) else (timesynclaw21_SampleShifts.j0 k a1 true bt308.1 bt308.2.1 bt308.2.2.1 bt308.2.2.2.1 bt314.1 bt314.2.1 bt314.2.2.1 bt314.2.2.2.1 bt320.1 bt320.2.1 bt320.2.2.1 bt320.2.2.2.1)) else (timesynclaw21_SampleShifts.j0 k a1 true bt308.1 bt308.2.1 bt308.2.2.1 bt308.2.2.2.1 bt314.1 bt314.2.1 bt314.2.2.1 bt314.2.2.2.1 bt320.1 bt320.2.1 bt320.2.2.1 bt320.2.2.2.1))))) = some r := H
  have A5 := Aside0.mk A50
  clear A50
  replace H := Option.bind_eq_some_iff.mp H
  obtain ⟨⟨t308, t309, t310, t311, t312⟩, A60, H⟩ := H
  replace H : ((sample_Of.f k t303 (wrap64 (t304 + (wrap64 (a1)))) (wrap64 (t305 + (wrap64 (a1)))) t306 (wrap64 ((wrap64 (a2)) + 1)) (Int.tmod (wrap64 (a3)) 500001)).bind fun bt314 => ((sample_Of.f k (wrap64 (t303 + (wrap64 (a1)))) (wrap64 (t304 + (wrap64 (a1)))) (wrap64 (t305 + (wrap64 (a1)))) (wrap64 (t306 + (wrap64 (a1)))) (wrap64 ((wrap64 (a2)) + 1)) (Int.tmod (wrap64 (a3)) 500001)).bind fun bt320 => (if t312 = 0 then (if bt314.2.2.2.2 = 0 then (timesynclaw21_SampleShifts.j0 k a1 (bt320.2.2.2.2 != 0) t308 t309 t310 t311 bt314.1 bt314.2.1 bt314.2.2.1 bt314.2.2.2.1 bt320.1 bt320.2.1 bt320.2.2.1 bt320.2.2.2.1) else (timesynclaw21_SampleShifts.j0 k a1 true t308 t309 t310 t311 bt314.1 bt314.2.1 bt314.2.2.1 bt314.2.2.2.1 bt320.1 bt320.2.1 bt320.2.2.1 bt320.2.2.2.1)) else (timesynclaw21_SampleShifts.j0 k a1 true t308 t309 t310 t311 bt314.1 bt314.2.1 bt314.2.2.1 bt314.2.2.2.1 bt320.1 bt320.2.1 bt320.2.2.1 bt320.2.2.2.1)))) = some r := H
  have A6 := Aside0.mk A60
  clear A60
  replace H := Option.bind_eq_some_iff.mp H
  obtain ⟨⟨t314, t315, t316, t317, t318⟩, A70, H⟩ := H
  replace H : ((sample_Of.f k (wrap64 (t303 + (wrap64 (a1)))) (wrap64 (t304 + (wrap64 (a1)))) (wrap64 (t305 + (wrap64 (a1)))) (wrap64 (t306 + (wrap64 (a1)))) (wrap64 ((wrap64 (a2)) + 1)) (Int.tmod (wrap64 (a3)) 500001)).bind fun bt320 => (if t312 = 0 then (if t318 = 0 then (timesynclaw21_SampleShifts.j0 k a1 (bt320.2.2.2.2 != 0) t308 t309 t310 t311 t314 t315 t316 t317 bt320.1 bt320.2.1 bt320.2.2.1 bt320.2.2.2.1) else (timesynclaw21_SampleShifts.j0 k a1 true t308 t309 t310 t311 t314 t315 t316 t317 bt320.1 bt320.2.1 bt320.2.2.1 bt320.2.2.2.1)) else (timesynclaw21_SampleShifts.j0 k a1 true t308 t309 t310 t311 t314 t315 t316 t317 bt320.1 bt320.2.1 bt320.2.2.1 bt320.2.2.2.1))) = some r := H
  have A7 := Aside0.mk A70
  clear A70
  replace H := Option.bind_eq_some_iff.mp H
  obtain ⟨⟨t320, t321, t322, t323, t324⟩, A80, H⟩ := H
  replace H : (if t312 = 0 then (if t318 = 0 then (timesynclaw21_SampleShifts.j0 k a1 (t324 != 0) t308 t309 t310 t311 t314 t315 t316 t317 t320 t321 t322 t323) else (timesynclaw21_SampleShifts.j0 k a1 true t308 t309 t310 t311 t314 t315 t316 t317 t320 t321 t322 t323)) else (timesynclaw21_SampleShifts.j0 k a1 true t308 t309 t310 t311 t314 t315 t316 t317 t320 t321 t322 t323)) = some r := H
  have A8 := Aside0.mk A80
  clear A80
  have HC9 := Aside0.mk H
  clear H
  go_enter Try.func7, Try.ntmps7
  go_upto_region 8 with (first | ((with_reducible refine gate_dst (N := 4) rfl ?_); refine box_event ?hg (N := 4) ?hd (cs := #[.int .u32 a0_0, .int .u32 a0_1, .int .u32 a0_2, .int .i32 a0_3, .int .i32 a0_4, .int .i32 a0_5]) (t := 39) ?hr ?_; (case hd => rfl); (case hg => rfl); (case hr => first | (go_simp; done) | (go_simp; rfl)); intro gb302 hg w10 hbox hb; have n0_ := Aside0.mk (below_step (by repeat (first | (with_reducible first | exact HB.out | apply below_alloc | apply pw_below_drewN | apply below_drew1) | exact HB.out)) hb); have n1_ := Aside0.mk (hbox); have n2_ := Aside0.mk ((by rw [hg]; exact (below_size (by repeat (first | (with_reducible first | exact HB.out | apply below_alloc | apply pw_below_drewN | apply below_drew1) | exact HB.out))) : w.heap.size ≤ gb302)); have n3_ := Aside0.mk ((by rw [hg]; exact (below_size (by repeat (first | (with_reducible first | exact HB.out | apply below_alloc | apply pw_below_drewN | apply below_drew1) | exact HB.out))) : w.heap.size ≤ gb302)); clear HB; have HB := n0_; have BK302 := n1_; have GW302 := n2_; have GE302 := n3_; clear n0_ n1_ n2_ n3_; clear hb hbox hg; obtain ⟨hcz11_0, hcz11_1, hcz11_2, hcz11_3, hcz11_4, hcz11_5⟩ := cs6 BK302.out; obtain ⟨hfz11_0, hfz11_1, hfz11_2, hfz11_3, hfz11_4, hfz11_5⟩ := fs6 BK302.out) | ((with_reducible refine gate_callee (f := 19) rfl ?_); refine goesL_ (some 21) rfl rfl Try.func19 (by kernel_rfl) rfl #[.agg #[.int .u32 a0_0, .int .u32 a0_1, .int .u32 a0_2, .int .i32 a0_3, .int .i32 a0_4, .int .i32 a0_5], .int .i64 0] rfl (by (try simp only [List.map_toArray, List.map_cons, List.map_nil]); first | done | rfl | (simp only [List.length_drop, List.length_take]; rfl)) ?_; (with_reducible refine (timesynclaw21_quad.calls a0_0 a0_1 a0_2 a0_3 a0_4 a0_5 0 t303 t304 t305 t306 _ A5.out).mono ?_); rintro e w12 ⟨rfl, hb⟩; refine ⟨_, rfl, ?_⟩; have n0_ := Aside0.mk (blk_below (g := gb302) (o := .cells #[.int .u32 a0_0, .int .u32 a0_1, .int .u32 a0_2, .int .i32 a0_3, .int .i32 a0_4, .int .i32 a0_5] 39 (0, 0)) (by (with_reducible repeat (first | refine blk_drewN ?_ _ | refine blk_drew ?_ | refine blk_alloc ?_ _)); exact BK302.out) hb); have n1_ := Aside0.mk (below_step (by repeat (first | (with_reducible first | exact HB.out | apply below_alloc | apply pw_below_drewN | apply below_drew1 | refine below_set ?_ GE302.out) | exact HB.out)) hb); clear BK302; clear HB; have BK302 := n0_; have HB := n1_; clear n0_ n1_; (try clear hb); (try clear hb2); (try clear hk); (try clear hi)) | ((with_reducible refine gate_dst (N := 10) rfl ?_); refine box_event ?hg (N := 10) ?hd (cs := #[.int .i64 0, .int .i64 0, .int .i64 0, .int .i64 0]) (t := 23) ?hr ?_; (case hd => rfl); (case hg => rfl); (case hr => first | (go_simp; done) | (go_simp; rfl)); intro gb307 hg w13 hbox hb; have n0_ := Aside0.mk (blk_below (g := gb302) (o := .cells #[.int .u32 a0_0, .int .u32 a0_1, .int .u32 a0_2, .int .i32 a0_3, .int .i32 a0_4, .int .i32 a0_5] 39 (0, 0)) (by (with_reducible repeat (first | refine blk_drewN ?_ _ | refine blk_drew ?_ | refine blk_alloc ?_ _)); exact BK302.out) hb); have n1_ := Aside0.mk (below_step (by repeat (first | (with_reducible first | exact HB.out | apply below_alloc | apply pw_below_drewN | apply below_drew1 | refine below_set ?_ GE302.out) | exact HB.out)) hb); have n2_ := Aside0.mk (hbox); have n3_ := Aside0.mk ((by rw [hg]; exact (below_size (by repeat (first | (with_reducible first | exact HB.out | apply below_alloc | apply pw_below_drewN | apply below_drew1 | refine below_set ?_ GE302.out) | exact HB.out))) : w.heap.size ≤ gb307)); have n4_ := Aside0.mk ((by rw [hg]; exact (below_size (by repeat (first | (with_reducible first | exact HB.out | apply below_alloc | apply pw_below_drewN | apply below_drew1 | refine below_set ?_ GE302.out) | exact HB.out))) : w.heap.size ≤ gb307)); have n5_ := Aside0.mk ((by rw [hg]; exact Nat.ne_of_lt (blk_lt (g := gb302) (o := .cells #[.int .u32 a0_0, .int .u32 a0_1, .int .u32 a0_2, .int .i32 a0_3, .int .i32 a0_4, .int .i32 a0_5] 39 (0, 0)) (by (with_reducible repeat (first | refine blk_drewN ?_ _ | refine blk_drew ?_ | refine blk_alloc ?_ _)); exact BK302.out)) : gb302 ≠ gb307)); have n6_ := Aside0.mk ((by rw [hg]; exact Nat.ne_of_gt (blk_lt (g := gb302) (o := .cells #[.int .u32 a0_0, .int .u32 a0_1, .int .u32 a0_2, .int .i32 a0_3, .int .i32 a0_4, .int .i32 a0_5] 39 (0, 0)) (by (with_reducible repeat (first | refine blk_drewN ?_ _ | refine blk_drew ?_ | refine blk_alloc ?_ _)); exact BK302.out)) : gb307 ≠ gb302)); clear BK302; clear HB; have BK302 := n0_; have HB := n1_; have BK307 := n2_; have GW307 := n3_; have GE307 := n4_; have NB302_307 := n5_; have NB307_302 := n6_; clear n0_ n1_ n2_ n3_ n4_ n5_ n6_; clear hb hbox hg; have hnb14 := NB307_302.out; have hnc14 := NB302_307.out; obtain ⟨hcz15_0, hcz15_1, hcz15_2, hcz15_3⟩ := cs4 BK307.out; obtain ⟨hfz15_0, hfz15_1, hfz15_2, hfz15_3⟩ := fs4 BK307.out) | ((with_reducible refine gate_callee (f := 10) rfl ?_); refine goesL_ (some 28) rfl rfl Try.func10 (by kernel_rfl) rfl #[.agg #[.int .i64 t303, .int .i64 t304, .int .i64 t305, .int .i64 t306], .int .i64 (wrap64 ((wrap64 (a2)) + 1)), .int .i64 (Int.tmod (wrap64 (a3)) 500001)] rfl (by (try simp only [List.map_toArray, List.map_cons, List.map_nil]); first | done | rfl | (simp only [List.length_drop, List.length_take]; rfl)) ?_; (with_reducible refine (sample_Of.calls k t303 t304 t305 t306 (wrap64 ((wrap64 (a2)) + 1)) (Int.tmod (wrap64 (a3)) 500001) t308 t309 t310 t311 t312 _ A6.out).mono ?_); rintro e w16 ⟨rfl, hb⟩; refine ⟨_, rfl, ?_⟩; have n0_ := Aside0.mk (blk_below (g := gb302) (o := .cells #[.int .u32 a0_0, .int .u32 a0_1, .int .u32 a0_2, .int .i32 a0_3, .int .i32 a0_4, .int .i32 a0_5] 39 (0, 0)) (by (with_reducible repeat (first | refine blk_drewN ?_ _ | refine blk_drew ?_ | refine blk_alloc ?_ _)); refine blk_far ?_ NB302_307.out _; (with_reducible repeat (first | refine blk_drewN ?_ _ | refine blk_drew ?_ | refine blk_alloc ?_ _)); refine blk_far ?_ NB302_307.out _; (with_reducible repeat (first | refine blk_drewN ?_ _ | refine blk_drew ?_ | refine blk_alloc ?_ _)); refine blk_far ?_ NB302_307.out _; (with_reducible repeat (first | refine blk_drewN ?_ _ | refine blk_drew ?_ | refine blk_alloc ?_ _)); refine blk_far ?_ NB302_307.out _; (with_reducible repeat (first | refine blk_drewN ?_ _ | refine blk_drew ?_ | refine blk_alloc ?_ _)); exact BK302.out) hb); have n1_ := Aside0.mk (blk_below (g := gb307) (o := .cells #[.int .i64 t303, .int .i64 t304, .int .i64 t305, .int .i64 t306] 23 (0, 0)) (by (with_reducible repeat (first | refine blk_drewN ?_ _ | refine blk_drew ?_ | refine blk_alloc ?_ _)); refine blk_put (cs := #[.int .i64 t303, .int .i64 t304, .int .i64 t305, .int .i64 0]) ?_ 3 _ rfl; (with_reducible repeat (first | refine blk_drewN ?_ _ | refine blk_drew ?_ | refine blk_alloc ?_ _)); refine blk_put (cs := #[.int .i64 t303, .int .i64 t304, .int .i64 0, .int .i64 0]) ?_ 2 _ rfl; (with_reducible repeat (first | refine blk_drewN ?_ _ | refine blk_drew ?_ | refine blk_alloc ?_ _)); refine blk_put (cs := #[.int .i64 t303, .int .i64 0, .int .i64 0, .int .i64 0]) ?_ 1 _ rfl; (with_reducible repeat (first | refine blk_drewN ?_ _ | refine blk_drew ?_ | refine blk_alloc ?_ _)); refine blk_put (cs := #[.int .i64 0, .int .i64 0, .int .i64 0, .int .i64 0]) ?_ 0 _ rfl; (with_reducible repeat (first | refine blk_drewN ?_ _ | refine blk_drew ?_ | refine blk_alloc ?_ _)); exact BK307.out) hb); have n2_ := Aside0.mk (below_step (by repeat (first | (with_reducible first | exact HB.out | apply below_alloc | apply pw_below_drewN | apply below_drew1 | refine below_set ?_ GE302.out | refine below_set ?_ GE307.out) | exact HB.out)) hb); clear BK302; clear BK307; clear HB; have BK302 := n0_; have BK307 := n1_; have HB := n2_; clear n0_ n1_ n2_; (try clear hb); (try clear hb2); (try clear hk); (try clear hi)) | ((with_reducible refine gate_dst (N := 11) rfl ?_); refine box_event ?hg (N := 11) ?hd (cs := #[.int .i64 0, .int .i64 0, .int .i64 0, .int .i64 0]) (t := 25) ?hr ?_; (case hd => rfl); (case hg => rfl); (case hr => first | (go_simp; done) | (go_simp; rfl)); intro gb313 hg w17 hbox hb; have n0_ := Aside0.mk (blk_below (g := gb302) (o := .cells #[.int .u32 a0_0, .int .u32 a0_1, .int .u32 a0_2, .int .i32 a0_3, .int .i32 a0_4, .int .i32 a0_5] 39 (0, 0)) (by (with_reducible repeat (first | refine blk_drewN ?_ _ | refine blk_drew ?_ | refine blk_alloc ?_ _)); exact BK302.out) hb); have n1_ := Aside0.mk (blk_below (g := gb307) (o := .cells #[.int .i64 t303, .int .i64 t304, .int .i64 t305, .int .i64 t306] 23 (0, 0)) (by (with_reducible repeat (first | refine blk_drewN ?_ _ | refine blk_drew ?_ | refine blk_alloc ?_ _)); exact BK307.out) hb); have n2_ := Aside0.mk (below_step (by repeat (first | (with_reducible first | exact HB.out | apply below_alloc | apply pw_below_drewN | apply below_drew1 | refine below_set ?_ GE302.out | refine below_set ?_ GE307.out) | exact HB.out)) hb); have n3_ := Aside0.mk (hbox); have n4_ := Aside0.mk ((by rw [hg]; exact (below_size (by repeat (first | (with_reducible first | exact HB.out | apply below_alloc | apply pw_below_drewN | apply below_drew1 | refine below_set ?_ GE302.out | refine below_set ?_ GE307.out) | exact HB.out))) : w.heap.size ≤ gb313)); have n5_ := Aside0.mk ((by rw [hg]; exact (below_size (by repeat (first | (with_reducible first | exact HB.out | apply below_alloc | apply pw_below_drewN | apply below_drew1 | refine below_set ?_ GE302.out | refine below_set ?_ GE307.out) | exact HB.out))) : w.heap.size ≤ gb313)); have n6_ := Aside0.mk ((by rw [hg]; exact Nat.ne_of_lt (blk_lt (g := gb302) (o := .cells #[.int .u32 a0_0, .int .u32 a0_1, .int .u32 a0_2, .int .i32 a0_3, .int .i32 a0_4, .int .i32 a0_5] 39 (0, 0)) (by (with_reducible repeat (first | refine blk_drewN ?_ _ | refine blk_drew ?_ | refine blk_alloc ?_ _)); exact BK302.out)) : gb302 ≠ gb313)); have n7_ := Aside0.mk ((by rw [hg]; exact Nat.ne_of_gt (blk_lt (g := gb302) (o := .cells #[.int .u32 a0_0, .int .u32 a0_1, .int .u32 a0_2, .int .i32 a0_3, .int .i32 a0_4, .int .i32 a0_5] 39 (0, 0)) (by (with_reducible repeat (first | refine blk_drewN ?_ _ | refine blk_drew ?_ | refine blk_alloc ?_ _)); exact BK302.out)) : gb313 ≠ gb302)); have n8_ := Aside0.mk ((by rw [hg]; exact Nat.ne_of_lt (blk_lt (g := gb307) (o := .cells #[.int .i64 t303, .int .i64 t304, .int .i64 t305, .int .i64 t306] 23 (0, 0)) (by (with_reducible repeat (first | refine blk_drewN ?_ _ | refine blk_drew ?_ | refine blk_alloc ?_ _)); exact BK307.out)) : gb307 ≠ gb313)); have n9_ := Aside0.mk ((by rw [hg]; exact Nat.ne_of_gt (blk_lt (g := gb307) (o := .cells #[.int .i64 t303, .int .i64 t304, .int .i64 t305, .int .i64 t306] 23 (0, 0)) (by (with_reducible repeat (first | refine blk_drewN ?_ _ | refine blk_drew ?_ | refine blk_alloc ?_ _)); exact BK307.out)) : gb313 ≠ gb307)); clear BK302; clear BK307; clear HB; have BK302 := n0_; have BK307 := n1_; have HB := n2_; have BK313 := n3_; have GW313 := n4_; have GE313 := n5_; have NB302_313 := n6_; have NB313_302 := n7_; have NB307_313 := n8_; have NB313_307 := n9_; clear n0_ n1_ n2_ n3_ n4_ n5_ n6_ n7_ n8_ n9_; clear hb hbox hg; have hnb18 := NB313_302.out; have hnc18 := NB302_313.out; have hnb19 := NB313_307.out; have hnc19 := NB307_313.out; obtain ⟨hcz20_0, hcz20_1, hcz20_2, hcz20_3⟩ := cs4 BK313.out; obtain ⟨hfz20_0, hfz20_1, hfz20_2, hfz20_3⟩ := fs4 BK313.out; obtain ⟨hcz21_0, hcz21_1, hcz21_2, hcz21_3⟩ := cs4 BK307.out; obtain ⟨hfz21_0, hfz21_1, hfz21_2, hfz21_3⟩ := fs4 BK307.out) | ((with_reducible refine gate_callee (f := 10) rfl ?_); refine goesL_ (some 49) rfl rfl Try.func10 (by kernel_rfl) rfl #[.agg #[.int .i64 t303, .int .i64 (wrap64 (t304 + (wrap64 (a1)))), .int .i64 (wrap64 (t305 + (wrap64 (a1)))), .int .i64 t306], .int .i64 (wrap64 ((wrap64 (a2)) + 1)), .int .i64 (Int.tmod (wrap64 (a3)) 500001)] rfl (by (try simp only [List.map_toArray, List.map_cons, List.map_nil]); first | done | rfl | (simp only [List.length_drop, List.length_take]; rfl)) ?_; (with_reducible refine (sample_Of.calls k t303 (wrap64 (t304 + (wrap64 (a1)))) (wrap64 (t305 + (wrap64 (a1)))) t306 (wrap64 ((wrap64 (a2)) + 1)) (Int.tmod (wrap64 (a3)) 500001) t314 t315 t316 t317 t318 _ A7.out).mono ?_); rintro e w22 ⟨rfl, hb⟩; refine ⟨_, rfl, ?_⟩; have n0_ := Aside0.mk (blk_below (g := gb302) (o := .cells #[.int .u32 a0_0, .int .u32 a0_1, .int .u32 a0_2, .int .i32 a0_3, .int .i32 a0_4, .int .i32 a0_5] 39 (0, 0)) (by (with_reducible repeat (first | refine blk_drewN ?_ _ | refine blk_drew ?_ | refine blk_alloc ?_ _)); refine blk_far ?_ NB302_307.out _; (with_reducible repeat (first | refine blk_drewN ?_ _ | refine blk_drew ?_ | refine blk_alloc ?_ _)); refine blk_far ?_ NB302_307.out _; (with_reducible repeat (first | refine blk_drewN ?_ _ | refine blk_drew ?_ | refine blk_alloc ?_ _)); refine blk_far ?_ NB302_313.out _; (with_reducible repeat (first | refine blk_drewN ?_ _ | refine blk_drew ?_ | refine blk_alloc ?_ _)); refine blk_far ?_ NB302_313.out _; (with_reducible repeat (first | refine blk_drewN ?_ _ | refine blk_drew ?_ | refine blk_alloc ?_ _)); refine blk_far ?_ NB302_313.out _; (with_reducible repeat (first | refine blk_drewN ?_ _ | refine blk_drew ?_ | refine blk_alloc ?_ _)); refine blk_far ?_ NB302_313.out _; (with_reducible repeat (first | refine blk_drewN ?_ _ | refine blk_drew ?_ | refine blk_alloc ?_ _)); exact BK302.out) hb); have n1_ := Aside0.mk (blk_below (g := gb307) (o := .cells #[.int .i64 t303, .int .i64 (wrap64 (t304 + (wrap64 (a1)))), .int .i64 (wrap64 (t305 + (wrap64 (a1)))), .int .i64 t306] 23 (0, 0)) (by (with_reducible repeat (first | refine blk_drewN ?_ _ | refine blk_drew ?_ | refine blk_alloc ?_ _)); refine blk_put (cs := #[.int .i64 t303, .int .i64 (wrap64 (t304 + (wrap64 (a1)))), .int .i64 t305, .int .i64 t306]) ?_ 2 _ rfl; (with_reducible repeat (first | refine blk_drewN ?_ _ | refine blk_drew ?_ | refine blk_alloc ?_ _)); refine blk_put (cs := #[.int .i64 t303, .int .i64 t304, .int .i64 t305, .int .i64 t306]) ?_ 1 _ rfl; (with_reducible repeat (first | refine blk_drewN ?_ _ | refine blk_drew ?_ | refine blk_alloc ?_ _)); refine blk_far ?_ NB307_313.out _; (with_reducible repeat (first | refine blk_drewN ?_ _ | refine blk_drew ?_ | refine blk_alloc ?_ _)); refine blk_far ?_ NB307_313.out _; (with_reducible repeat (first | refine blk_drewN ?_ _ | refine blk_drew ?_ | refine blk_alloc ?_ _)); refine blk_far ?_ NB307_313.out _; (with_reducible repeat (first | refine blk_drewN ?_ _ | refine blk_drew ?_ | refine blk_alloc ?_ _)); refine blk_far ?_ NB307_313.out _; (with_reducible repeat (first | refine blk_drewN ?_ _ | refine blk_drew ?_ | refine blk_alloc ?_ _)); exact BK307.out) hb); have n2_ := Aside0.mk (blk_below (g := gb313) (o := .cells #[.int .i64 t308, .int .i64 t309, .int .i64 t310, .int .i64 t311] 25 (0, 0)) (by (with_reducible repeat (first | refine blk_drewN ?_ _ | refine blk_drew ?_ | refine blk_alloc ?_ _)); refine blk_far ?_ NB313_307.out _; (with_reducible repeat (first | refine blk_drewN ?_ _ | refine blk_drew ?_ | refine blk_alloc ?_ _)); refine blk_far ?_ NB313_307.out _; (with_reducible repeat (first | refine blk_drewN ?_ _ | refine blk_drew ?_ | refine blk_alloc ?_ _)); refine blk_put (cs := #[.int .i64 t308, .int .i64 t309, .int .i64 t310, .int .i64 0]) ?_ 3 _ rfl; (with_reducible repeat (first | refine blk_drewN ?_ _ | refine blk_drew ?_ | refine blk_alloc ?_ _)); refine blk_put (cs := #[.int .i64 t308, .int .i64 t309, .int .i64 0, .int .i64 0]) ?_ 2 _ rfl; (with_reducible repeat (first | refine blk_drewN ?_ _ | refine blk_drew ?_ | refine blk_alloc ?_ _)); refine blk_put (cs := #[.int .i64 t308, .int .i64 0, .int .i64 0, .int .i64 0]) ?_ 1 _ rfl; (with_reducible repeat (first | refine blk_drewN ?_ _ | refine blk_drew ?_ | refine blk_alloc ?_ _)); refine blk_put (cs := #[.int .i64 0, .int .i64 0, .int .i64 0, .int .i64 0]) ?_ 0 _ rfl; (with_reducible repeat (first | refine blk_drewN ?_ _ | refine blk_drew ?_ | refine blk_alloc ?_ _)); exact BK313.out) hb); have n3_ := Aside0.mk (below_step (by repeat (first | (with_reducible first | exact HB.out | apply below_alloc | apply pw_below_drewN | apply below_drew1 | refine below_set ?_ GE302.out | refine below_set ?_ GE307.out | refine below_set ?_ GE313.out) | exact HB.out)) hb); clear BK302; clear BK307; clear BK313; clear HB; have BK302 := n0_; have BK307 := n1_; have BK313 := n2_; have HB := n3_; clear n0_ n1_ n2_ n3_; (try clear hb); (try clear hb2); (try clear hk); (try clear hi)) | ((with_reducible refine gate_dst (N := 13) rfl ?_); refine box_event ?hg (N := 13) ?hd (cs := #[.int .i64 0, .int .i64 0, .int .i64 0, .int .i64 0]) (t := 25) ?hr ?_; (case hd => rfl); (case hg => rfl); (case hr => first | (go_simp; done) | (go_simp; rfl)); intro gb319 hg w23 hbox hb; have n0_ := Aside0.mk (blk_below (g := gb302) (o := .cells #[.int .u32 a0_0, .int .u32 a0_1, .int .u32 a0_2, .int .i32 a0_3, .int .i32 a0_4, .int .i32 a0_5] 39 (0, 0)) (by (with_reducible repeat (first | refine blk_drewN ?_ _ | refine blk_drew ?_ | refine blk_alloc ?_ _)); exact BK302.out) hb); have n1_ := Aside0.mk (blk_below (g := gb307) (o := .cells #[.int .i64 t303, .int .i64 (wrap64 (t304 + (wrap64 (a1)))), .int .i64 (wrap64 (t305 + (wrap64 (a1)))), .int .i64 t306] 23 (0, 0)) (by (with_reducible repeat (first | refine blk_drewN ?_ _ | refine blk_drew ?_ | refine blk_alloc ?_ _)); exact BK307.out) hb); have n2_ := Aside0.mk (blk_below (g := gb313) (o := .cells #[.int .i64 t308, .int .i64 t309, .int .i64 t310, .int .i64 t311] 25 (0, 0)) (by (with_reducible repeat (first | refine blk_drewN ?_ _ | refine blk_drew ?_ | refine blk_alloc ?_ _)); exact BK313.out) hb); have n3_ := Aside0.mk (below_step (by repeat (first | (with_reducible first | exact HB.out | apply below_alloc | apply pw_below_drewN | apply below_drew1 | refine below_set ?_ GE302.out | refine below_set ?_ GE307.out | refine below_set ?_ GE313.out) | exact HB.out)) hb); have n4_ := Aside0.mk (hbox); have n5_ := Aside0.mk ((by rw [hg]; exact (below_size (by repeat (first | (with_reducible first | exact HB.out | apply below_alloc | apply pw_below_drewN | apply below_drew1 | refine below_set ?_ GE302.out | refine below_set ?_ GE307.out | refine below_set ?_ GE313.out) | exact HB.out))) : w.heap.size ≤ gb319)); have n6_ := Aside0.mk ((by rw [hg]; exact (below_size (by repeat (first | (with_reducible first | exact HB.out | apply below_alloc | apply pw_below_drewN | apply below_drew1 | refine below_set ?_ GE302.out | refine below_set ?_ GE307.out | refine below_set ?_ GE313.out) | exact HB.out))) : w.heap.size ≤ gb319)); have n7_ := Aside0.mk ((by rw [hg]; exact Nat.ne_of_lt (blk_lt (g := gb302) (o := .cells #[.int .u32 a0_0, .int .u32 a0_1, .int .u32 a0_2, .int .i32 a0_3, .int .i32 a0_4, .int .i32 a0_5] 39 (0, 0)) (by (with_reducible repeat (first | refine blk_drewN ?_ _ | refine blk_drew ?_ | refine blk_alloc ?_ _)); exact BK302.out)) : gb302 ≠ gb319)); have n8_ := Aside0.mk ((by rw [hg]; exact Nat.ne_of_gt (blk_lt (g := gb302) (o := .cells #[.int .u32 a0_0, .int .u32 a0_1, .int .u32 a0_2, .int .i32 a0_3, .int .i32 a0_4, .int .i32 a0_5] 39 (0, 0)) (by (with_reducible repeat (first | refine blk_drewN ?_ _ | refine blk_drew ?_ | refine blk_alloc ?_ _)); exact BK302.out)) : gb319 ≠ gb302)); have n9_ := Aside0.mk ((by rw [hg]; exact Nat.ne_of_lt (blk_lt (g := gb307) (o := .cells #[.int .i64 t303, .int .i64 (wrap64 (t304 + (wrap64 (a1)))), .int .i64 (wrap64 (t305 + (wrap64 (a1)))), .int .i64 t306] 23 (0, 0)) (by (with_reducible repeat (first | refine blk_drewN ?_ _ | refine blk_drew ?_ | refine blk_alloc ?_ _)); exact BK307.out)) : gb307 ≠ gb319)); have n10_ := Aside0.mk ((by rw [hg]; exact Nat.ne_of_gt (blk_lt (g := gb307) (o := .cells #[.int .i64 t303, .int .i64 (wrap64 (t304 + (wrap64 (a1)))), .int .i64 (wrap64 (t305 + (wrap64 (a1)))), .int .i64 t306] 23 (0, 0)) (by (with_reducible repeat (first | refine blk_drewN ?_ _ | refine blk_drew ?_ | refine blk_alloc ?_ _)); exact BK307.out)) : gb319 ≠ gb307)); have n11_ := Aside0.mk ((by rw [hg]; exact Nat.ne_of_lt (blk_lt (g := gb313) (o := .cells #[.int .i64 t308, .int .i64 t309, .int .i64 t310, .int .i64 t311] 25 (0, 0)) (by (with_reducible repeat (first | refine blk_drewN ?_ _ | refine blk_drew ?_ | refine blk_alloc ?_ _)); exact BK313.out)) : gb313 ≠ gb319)); have n12_ := Aside0.mk ((by rw [hg]; exact Nat.ne_of_gt (blk_lt (g := gb313) (o := .cells #[.int .i64 t308, .int .i64 t309, .int .i64 t310, .int .i64 t311] 25 (0, 0)) (by (with_reducible repeat (first | refine blk_drewN ?_ _ | refine blk_drew ?_ | refine blk_alloc ?_ _)); exact BK313.out)) : gb319 ≠ gb313)); clear BK302; clear BK307; clear BK313; clear HB; have BK302 := n0_; have BK307 := n1_; have BK313 := n2_; have HB := n3_; have BK319 := n4_; have GW319 := n5_; have GE319 := n6_; have NB302_319 := n7_; have NB319_302 := n8_; have NB307_319 := n9_; have NB319_307 := n10_; have NB313_319 := n11_; have NB319_313 := n12_; clear n0_ n1_ n2_ n3_ n4_ n5_ n6_ n7_ n8_ n9_ n10_ n11_ n12_; clear hb hbox hg; have hnb24 := NB319_302.out; have hnc24 := NB302_319.out; have hnb25 := NB319_307.out; have hnc25 := NB307_319.out; have hnb26 := NB319_313.out; have hnc26 := NB313_319.out; obtain ⟨hcz27_0, hcz27_1, hcz27_2, hcz27_3⟩ := cs4 BK319.out; obtain ⟨hfz27_0, hfz27_1, hfz27_2, hfz27_3⟩ := fs4 BK319.out; obtain ⟨hcz28_0, hcz28_1, hcz28_2, hcz28_3⟩ := cs4 BK307.out; obtain ⟨hfz28_0, hfz28_1, hfz28_2, hfz28_3⟩ := fs4 BK307.out) | ((with_reducible refine gate_callee (f := 10) rfl ?_); refine goesL_ (some 70) rfl rfl Try.func10 (by kernel_rfl) rfl #[.agg #[.int .i64 (wrap64 (t303 + (wrap64 (a1)))), .int .i64 (wrap64 (t304 + (wrap64 (a1)))), .int .i64 (wrap64 (t305 + (wrap64 (a1)))), .int .i64 (wrap64 (t306 + (wrap64 (a1))))], .int .i64 (wrap64 ((wrap64 (a2)) + 1)), .int .i64 (Int.tmod (wrap64 (a3)) 500001)] rfl (by (try simp only [List.map_toArray, List.map_cons, List.map_nil]); first | done | rfl | (simp only [List.length_drop, List.length_take]; rfl)) ?_; (with_reducible refine (sample_Of.calls k (wrap64 (t303 + (wrap64 (a1)))) (wrap64 (t304 + (wrap64 (a1)))) (wrap64 (t305 + (wrap64 (a1)))) (wrap64 (t306 + (wrap64 (a1)))) (wrap64 ((wrap64 (a2)) + 1)) (Int.tmod (wrap64 (a3)) 500001) t320 t321 t322 t323 t324 _ A8.out).mono ?_); rintro e w29 ⟨rfl, hb⟩; refine ⟨_, rfl, ?_⟩; have n0_ := Aside0.mk (blk_below (g := gb302) (o := .cells #[.int .u32 a0_0, .int .u32 a0_1, .int .u32 a0_2, .int .i32 a0_3, .int .i32 a0_4, .int .i32 a0_5] 39 (0, 0)) (by (with_reducible repeat (first | refine blk_drewN ?_ _ | refine blk_drew ?_ | refine blk_alloc ?_ _)); refine blk_far ?_ NB302_307.out _; (with_reducible repeat (first | refine blk_drewN ?_ _ | refine blk_drew ?_ | refine blk_alloc ?_ _)); refine blk_far ?_ NB302_307.out _; (with_reducible repeat (first | refine blk_drewN ?_ _ | refine blk_drew ?_ | refine blk_alloc ?_ _)); refine blk_far ?_ NB302_319.out _; (with_reducible repeat (first | refine blk_drewN ?_ _ | refine blk_drew ?_ | refine blk_alloc ?_ _)); refine blk_far ?_ NB302_319.out _; (with_reducible repeat (first | refine blk_drewN ?_ _ | refine blk_drew ?_ | refine blk_alloc ?_ _)); refine blk_far ?_ NB302_319.out _; (with_reducible repeat (first | refine blk_drewN ?_ _ | refine blk_drew ?_ | refine blk_alloc ?_ _)); refine blk_far ?_ NB302_319.out _; (with_reducible repeat (first | refine blk_drewN ?_ _ | refine blk_drew ?_ | refine blk_alloc ?_ _)); exact BK302.out) hb); have n1_ := Aside0.mk (blk_below (g := gb307) (o := .cells #[.int .i64 (wrap64 (t303 + (wrap64 (a1)))), .int .i64 (wrap64 (t304 + (wrap64 (a1)))), .int .i64 (wrap64 (t305 + (wrap64 (a1)))), .int .i64 (wrap64 (t306 + (wrap64 (a1))))] 23 (0, 0)) (by (with_reducible repeat (first | refine blk_drewN ?_ _ | refine blk_drew ?_ | refine blk_alloc ?_ _)); refine blk_put (cs := #[.int .i64 (wrap64 (t303 + (wrap64 (a1)))), .int .i64 (wrap64 (t304 + (wrap64 (a1)))), .int .i64 (wrap64 (t305 + (wrap64 (a1)))), .int .i64 t306]) ?_ 3 _ rfl; (with_reducible repeat (first | refine blk_drewN ?_ _ | refine blk_drew ?_ | refine blk_alloc ?_ _)); refine blk_put (cs := #[.int .i64 t303, .int .i64 (wrap64 (t304 + (wrap64 (a1)))), .int .i64 (wrap64 (t305 + (wrap64 (a1)))), .int .i64 t306]) ?_ 0 _ rfl; (with_reducible repeat (first | refine blk_drewN ?_ _ | refine blk_drew ?_ | refine blk_alloc ?_ _)); refine blk_far ?_ NB307_319.out _; (with_reducible repeat (first | refine blk_drewN ?_ _ | refine blk_drew ?_ | refine blk_alloc ?_ _)); refine blk_far ?_ NB307_319.out _; (with_reducible repeat (first | refine blk_drewN ?_ _ | refine blk_drew ?_ | refine blk_alloc ?_ _)); refine blk_far ?_ NB307_319.out _; (with_reducible repeat (first | refine blk_drewN ?_ _ | refine blk_drew ?_ | refine blk_alloc ?_ _)); refine blk_far ?_ NB307_319.out _; (with_reducible repeat (first | refine blk_drewN ?_ _ | refine blk_drew ?_ | refine blk_alloc ?_ _)); exact BK307.out) hb); have n2_ := Aside0.mk (blk_below (g := gb313) (o := .cells #[.int .i64 t308, .int .i64 t309, .int .i64 t310, .int .i64 t311] 25 (0, 0)) (by (with_reducible repeat (first | refine blk_drewN ?_ _ | refine blk_drew ?_ | refine blk_alloc ?_ _)); refine blk_far ?_ NB313_307.out _; (with_reducible repeat (first | refine blk_drewN ?_ _ | refine blk_drew ?_ | refine blk_alloc ?_ _)); refine blk_far ?_ NB313_307.out _; (with_reducible repeat (first | refine blk_drewN ?_ _ | refine blk_drew ?_ | refine blk_alloc ?_ _)); refine blk_far ?_ NB313_319.out _; (with_reducible repeat (first | refine blk_drewN ?_ _ | refine blk_drew ?_ | refine blk_alloc ?_ _)); refine blk_far ?_ NB313_319.out _; (with_reducible repeat (first | refine blk_drewN ?_ _ | refine blk_drew ?_ | refine blk_alloc ?_ _)); refine blk_far ?_ NB313_319.out _; (with_reducible repeat (first | refine blk_drewN ?_ _ | refine blk_drew ?_ | refine blk_alloc ?_ _)); refine blk_far ?_ NB313_319.out _; (with_reducible repeat (first | refine blk_drewN ?_ _ | refine blk_drew ?_ | refine blk_alloc ?_ _)); exact BK313.out) hb); have n3_ := Aside0.mk (blk_below (g := gb319) (o := .cells #[.int .i64 t314, .int .i64 t315, .int .i64 t316, .int .i64 t317] 25 (0, 0)) (by (with_reducible repeat (first | refine blk_drewN ?_ _ | refine blk_drew ?_ | refine blk_alloc ?_ _)); refine blk_far ?_ NB319_307.out _; (with_reducible repeat (first | refine blk_drewN ?_ _ | refine blk_drew ?_ | refine blk_alloc ?_ _)); refine blk_far ?_ NB319_307.out _; (with_reducible repeat (first | refine blk_drewN ?_ _ | refine blk_drew ?_ | refine blk_alloc ?_ _)); refine blk_put (cs := #[.int .i64 t314, .int .i64 t315, .int .i64 t316, .int .i64 0]) ?_ 3 _ rfl; (with_reducible repeat (first | refine blk_drewN ?_ _ | refine blk_drew ?_ | refine blk_alloc ?_ _)); refine blk_put (cs := #[.int .i64 t314, .int .i64 t315, .int .i64 0, .int .i64 0]) ?_ 2 _ rfl; (with_reducible repeat (first | refine blk_drewN ?_ _ | refine blk_drew ?_ | refine blk_alloc ?_ _)); refine blk_put (cs := #[.int .i64 t314, .int .i64 0, .int .i64 0, .int .i64 0]) ?_ 1 _ rfl; (with_reducible repeat (first | refine blk_drewN ?_ _ | refine blk_drew ?_ | refine blk_alloc ?_ _)); refine blk_put (cs := #[.int .i64 0, .int .i64 0, .int .i64 0, .int .i64 0]) ?_ 0 _ rfl; (with_reducible repeat (first | refine blk_drewN ?_ _ | refine blk_drew ?_ | refine blk_alloc ?_ _)); exact BK319.out) hb); have n4_ := Aside0.mk (below_step (by repeat (first | (with_reducible first | exact HB.out | apply below_alloc | apply pw_below_drewN | apply below_drew1 | refine below_set ?_ GE302.out | refine below_set ?_ GE307.out | refine below_set ?_ GE313.out | refine below_set ?_ GE319.out) | exact HB.out)) hb); clear BK302; clear BK307; clear BK313; clear BK319; clear HB; have BK302 := n0_; have BK307 := n1_; have BK313 := n2_; have BK319 := n3_; have HB := n4_; clear n0_ n1_ n2_ n3_ n4_; (try clear hb); (try clear hb2); (try clear hk); (try clear hi)) | ((with_reducible refine gate_dst (N := 15) rfl ?_); refine box_event ?hg (N := 15) ?hd (cs := #[.int .i64 0, .int .i64 0, .int .i64 0, .int .i64 0]) (t := 25) ?hr ?_; (case hd => rfl); (case hg => rfl); (case hr => first | (go_simp; done) | (go_simp; rfl)); intro gb325 hg w30 hbox hb; have n0_ := Aside0.mk (blk_below (g := gb302) (o := .cells #[.int .u32 a0_0, .int .u32 a0_1, .int .u32 a0_2, .int .i32 a0_3, .int .i32 a0_4, .int .i32 a0_5] 39 (0, 0)) (by (with_reducible repeat (first | refine blk_drewN ?_ _ | refine blk_drew ?_ | refine blk_alloc ?_ _)); exact BK302.out) hb); have n1_ := Aside0.mk (blk_below (g := gb307) (o := .cells #[.int .i64 (wrap64 (t303 + (wrap64 (a1)))), .int .i64 (wrap64 (t304 + (wrap64 (a1)))), .int .i64 (wrap64 (t305 + (wrap64 (a1)))), .int .i64 (wrap64 (t306 + (wrap64 (a1))))] 23 (0, 0)) (by (with_reducible repeat (first | refine blk_drewN ?_ _ | refine blk_drew ?_ | refine blk_alloc ?_ _)); exact BK307.out) hb); have n2_ := Aside0.mk (blk_below (g := gb313) (o := .cells #[.int .i64 t308, .int .i64 t309, .int .i64 t310, .int .i64 t311] 25 (0, 0)) (by (with_reducible repeat (first | refine blk_drewN ?_ _ | refine blk_drew ?_ | refine blk_alloc ?_ _)); exact BK313.out) hb); have n3_ := Aside0.mk (blk_below (g := gb319) (o := .cells #[.int .i64 t314, .int .i64 t315, .int .i64 t316, .int .i64 t317] 25 (0, 0)) (by (with_reducible repeat (first | refine blk_drewN ?_ _ | refine blk_drew ?_ | refine blk_alloc ?_ _)); exact BK319.out) hb); have n4_ := Aside0.mk (below_step (by repeat (first | (with_reducible first | exact HB.out | apply below_alloc | apply pw_below_drewN | apply below_drew1 | refine below_set ?_ GE302.out | refine below_set ?_ GE307.out | refine below_set ?_ GE313.out | refine below_set ?_ GE319.out) | exact HB.out)) hb); have n5_ := Aside0.mk (hbox); have n6_ := Aside0.mk ((by rw [hg]; exact (below_size (by repeat (first | (with_reducible first | exact HB.out | apply below_alloc | apply pw_below_drewN | apply below_drew1 | refine below_set ?_ GE302.out | refine below_set ?_ GE307.out | refine below_set ?_ GE313.out | refine below_set ?_ GE319.out) | exact HB.out))) : w.heap.size ≤ gb325)); have n7_ := Aside0.mk ((by rw [hg]; exact (below_size (by repeat (first | (with_reducible first | exact HB.out | apply below_alloc | apply pw_below_drewN | apply below_drew1 | refine below_set ?_ GE302.out | refine below_set ?_ GE307.out | refine below_set ?_ GE313.out | refine below_set ?_ GE319.out) | exact HB.out))) : w.heap.size ≤ gb325)); have n8_ := Aside0.mk ((by rw [hg]; exact Nat.ne_of_lt (blk_lt (g := gb302) (o := .cells #[.int .u32 a0_0, .int .u32 a0_1, .int .u32 a0_2, .int .i32 a0_3, .int .i32 a0_4, .int .i32 a0_5] 39 (0, 0)) (by (with_reducible repeat (first | refine blk_drewN ?_ _ | refine blk_drew ?_ | refine blk_alloc ?_ _)); exact BK302.out)) : gb302 ≠ gb325)); have n9_ := Aside0.mk ((by rw [hg]; exact Nat.ne_of_gt (blk_lt (g := gb302) (o := .cells #[.int .u32 a0_0, .int .u32 a0_1, .int .u32 a0_2, .int .i32 a0_3, .int .i32 a0_4, .int .i32 a0_5] 39 (0, 0)) (by (with_reducible repeat (first | refine blk_drewN ?_ _ | refine blk_drew ?_ | refine blk_alloc ?_ _)); exact BK302.out)) : gb325 ≠ gb302)); have n10_ := Aside0.mk ((by rw [hg]; exact Nat.ne_of_lt (blk_lt (g := gb307) (o := .cells #[.int .i64 (wrap64 (t303 + (wrap64 (a1)))), .int .i64 (wrap64 (t304 + (wrap64 (a1)))), .int .i64 (wrap64 (t305 + (wrap64 (a1)))), .int .i64 (wrap64 (t306 + (wrap64 (a1))))] 23 (0, 0)) (by (with_reducible repeat (first | refine blk_drewN ?_ _ | refine blk_drew ?_ | refine blk_alloc ?_ _)); exact BK307.out)) : gb307 ≠ gb325)); have n11_ := Aside0.mk ((by rw [hg]; exact Nat.ne_of_gt (blk_lt (g := gb307) (o := .cells #[.int .i64 (wrap64 (t303 + (wrap64 (a1)))), .int .i64 (wrap64 (t304 + (wrap64 (a1)))), .int .i64 (wrap64 (t305 + (wrap64 (a1)))), .int .i64 (wrap64 (t306 + (wrap64 (a1))))] 23 (0, 0)) (by (with_reducible repeat (first | refine blk_drewN ?_ _ | refine blk_drew ?_ | refine blk_alloc ?_ _)); exact BK307.out)) : gb325 ≠ gb307)); have n12_ := Aside0.mk ((by rw [hg]; exact Nat.ne_of_lt (blk_lt (g := gb313) (o := .cells #[.int .i64 t308, .int .i64 t309, .int .i64 t310, .int .i64 t311] 25 (0, 0)) (by (with_reducible repeat (first | refine blk_drewN ?_ _ | refine blk_drew ?_ | refine blk_alloc ?_ _)); exact BK313.out)) : gb313 ≠ gb325)); have n13_ := Aside0.mk ((by rw [hg]; exact Nat.ne_of_gt (blk_lt (g := gb313) (o := .cells #[.int .i64 t308, .int .i64 t309, .int .i64 t310, .int .i64 t311] 25 (0, 0)) (by (with_reducible repeat (first | refine blk_drewN ?_ _ | refine blk_drew ?_ | refine blk_alloc ?_ _)); exact BK313.out)) : gb325 ≠ gb313)); have n14_ := Aside0.mk ((by rw [hg]; exact Nat.ne_of_lt (blk_lt (g := gb319) (o := .cells #[.int .i64 t314, .int .i64 t315, .int .i64 t316, .int .i64 t317] 25 (0, 0)) (by (with_reducible repeat (first | refine blk_drewN ?_ _ | refine blk_drew ?_ | refine blk_alloc ?_ _)); exact BK319.out)) : gb319 ≠ gb325)); have n15_ := Aside0.mk ((by rw [hg]; exact Nat.ne_of_gt (blk_lt (g := gb319) (o := .cells #[.int .i64 t314, .int .i64 t315, .int .i64 t316, .int .i64 t317] 25 (0, 0)) (by (with_reducible repeat (first | refine blk_drewN ?_ _ | refine blk_drew ?_ | refine blk_alloc ?_ _)); exact BK319.out)) : gb325 ≠ gb319)); clear BK302; clear BK307; clear BK313; clear BK319; clear HB; have BK302 := n0_; have BK307 := n1_; have BK313 := n2_; have BK319 := n3_; have HB := n4_; have BK325 := n5_; have GW325 := n6_; have GE325 := n7_; have NB302_325 := n8_; have NB325_302 := n9_; have NB307_325 := n10_; have NB325_307 := n11_; have NB313_325 := n12_; have NB325_313 := n13_; have NB319_325 := n14_; have NB325_319 := n15_; clear n0_ n1_ n2_ n3_ n4_ n5_ n6_ n7_ n8_ n9_ n10_ n11_ n12_ n13_ n14_ n15_; clear hb hbox hg; have hnb31 := NB325_302.out; have hnc31 := NB302_325.out; have hnb32 := NB325_307.out; have hnc32 := NB307_325.out; have hnb33 := NB325_313.out; have hnc33 := NB313_325.out; have hnb34 := NB325_319.out; have hnc34 := NB319_325.out; obtain ⟨hcz35_0, hcz35_1, hcz35_2, hcz35_3⟩ := cs4 BK325.out; obtain ⟨hfz35_0, hfz35_1, hfz35_2, hfz35_3⟩ := fs4 BK325.out))
  (try simp only [Act.put, z1, z2, z3])
  go_cut [82] (fun v82 wc => ∃ (kq : Nat) (x82_8 : Bool), v82 = .bool x82_8 ∧ Aside0 (timesynclaw21_SampleShifts.j0 kq a1 x82_8 t308 t309 t310 t311 t314 t315 t316 t317 t320 t321 t322 t323 = some r) ∧ Aside0 (kq ≤ k) ∧ Aside0 (wc.heap[gb302]? = some (.cells #[.int .u32 a0_0, .int .u32 a0_1, .int .u32 a0_2, .int .i32 a0_3, .int .i32 a0_4, .int .i32 a0_5] 39 (0, 0))) ∧ Aside0 (wc.heap[gb307]? = some (.cells #[.int .i64 (wrap64 (t303 + (wrap64 (a1)))), .int .i64 (wrap64 (t304 + (wrap64 (a1)))), .int .i64 (wrap64 (t305 + (wrap64 (a1)))), .int .i64 (wrap64 (t306 + (wrap64 (a1))))] 23 (0, 0))) ∧ Aside0 (wc.heap[gb313]? = some (.cells #[.int .i64 t308, .int .i64 t309, .int .i64 t310, .int .i64 t311] 25 (0, 0))) ∧ Aside0 (wc.heap[gb319]? = some (.cells #[.int .i64 t314, .int .i64 t315, .int .i64 t316, .int .i64 t317] 25 (0, 0))) ∧ Aside0 (wc.heap[gb325]? = some (.cells #[.int .i64 t320, .int .i64 t321, .int .i64 t322, .int .i64 t323] 25 (0, 0))) ∧ Aside0 (Below w.heap.size w wc))
  case first =>
    have H := HC9.out
    clear HC9
    by_cases c36 : t312 = 0
    · rw [if_pos c36] at H
      have c36b0 : (t312 == 0) = true := beq_iff_eq.mpr c36
      have c36b1 : (t312 != 0) = false := bne_eq_false_iff_eq.mpr c36
      clear c36
      (first | rw [c36b0] | (simp only [i64_w, i32_w]; rw [c36b0]) | skip)
      by_cases c37 : t318 = 0
      · rw [if_pos c37] at H
        have c37b0 : (t318 == 0) = true := beq_iff_eq.mpr c37
        have c37b1 : (t318 != 0) = false := bne_eq_false_iff_eq.mpr c37
        clear c37
        have H' := Aside0.mk H
        clear H
        go_wp2
        go_meet
        case rel => exact ⟨_, ((t324 != 0)), (by first | rfl | (simp; done) | (simp [*]; done)), H', ⟨by first | omega | exact Nat.le_refl _⟩, ⟨by (with_reducible repeat (first | refine blk_drewN ?_ _ | refine blk_drew ?_ | refine blk_alloc ?_ _)); refine blk_far ?_ NB302_325.out _; (with_reducible repeat (first | refine blk_drewN ?_ _ | refine blk_drew ?_ | refine blk_alloc ?_ _)); refine blk_far ?_ NB302_325.out _; (with_reducible repeat (first | refine blk_drewN ?_ _ | refine blk_drew ?_ | refine blk_alloc ?_ _)); refine blk_far ?_ NB302_325.out _; (with_reducible repeat (first | refine blk_drewN ?_ _ | refine blk_drew ?_ | refine blk_alloc ?_ _)); refine blk_far ?_ NB302_325.out _; (with_reducible repeat (first | refine blk_drewN ?_ _ | refine blk_drew ?_ | refine blk_alloc ?_ _)); exact BK302.out⟩, ⟨by (with_reducible repeat (first | refine blk_drewN ?_ _ | refine blk_drew ?_ | refine blk_alloc ?_ _)); refine blk_far ?_ NB307_325.out _; (with_reducible repeat (first | refine blk_drewN ?_ _ | refine blk_drew ?_ | refine blk_alloc ?_ _)); refine blk_far ?_ NB307_325.out _; (with_reducible repeat (first | refine blk_drewN ?_ _ | refine blk_drew ?_ | refine blk_alloc ?_ _)); refine blk_far ?_ NB307_325.out _; (with_reducible repeat (first | refine blk_drewN ?_ _ | refine blk_drew ?_ | refine blk_alloc ?_ _)); refine blk_far ?_ NB307_325.out _; (with_reducible repeat (first | refine blk_drewN ?_ _ | refine blk_drew ?_ | refine blk_alloc ?_ _)); exact BK307.out⟩, ⟨by (with_reducible repeat (first | refine blk_drewN ?_ _ | refine blk_drew ?_ | refine blk_alloc ?_ _)); refine blk_far ?_ NB313_325.out _; (with_reducible repeat (first | refine blk_drewN ?_ _ | refine blk_drew ?_ | refine blk_alloc ?_ _)); refine blk_far ?_ NB313_325.out _; (with_reducible repeat (first | refine blk_drewN ?_ _ | refine blk_drew ?_ | refine blk_alloc ?_ _)); refine blk_far ?_ NB313_325.out _; (with_reducible repeat (first | refine blk_drewN ?_ _ | refine blk_drew ?_ | refine blk_alloc ?_ _)); refine blk_far ?_ NB313_325.out _; (with_reducible repeat (first | refine blk_drewN ?_ _ | refine blk_drew ?_ | refine blk_alloc ?_ _)); exact BK313.out⟩, ⟨by (with_reducible repeat (first | refine blk_drewN ?_ _ | refine blk_drew ?_ | refine blk_alloc ?_ _)); refine blk_far ?_ NB319_325.out _; (with_reducible repeat (first | refine blk_drewN ?_ _ | refine blk_drew ?_ | refine blk_alloc ?_ _)); refine blk_far ?_ NB319_325.out _; (with_reducible repeat (first | refine blk_drewN ?_ _ | refine blk_drew ?_ | refine blk_alloc ?_ _)); refine blk_far ?_ NB319_325.out _; (with_reducible repeat (first | refine blk_drewN ?_ _ | refine blk_drew ?_ | refine blk_alloc ?_ _)); refine blk_far ?_ NB319_325.out _; (with_reducible repeat (first | refine blk_drewN ?_ _ | refine blk_drew ?_ | refine blk_alloc ?_ _)); exact BK319.out⟩, ⟨by (with_reducible repeat (first | refine blk_drewN ?_ _ | refine blk_drew ?_ | refine blk_alloc ?_ _)); refine blk_put (cs := #[.int .i64 t320, .int .i64 t321, .int .i64 t322, .int .i64 0]) ?_ 3 _ rfl; (with_reducible repeat (first | refine blk_drewN ?_ _ | refine blk_drew ?_ | refine blk_alloc ?_ _)); refine blk_put (cs := #[.int .i64 t320, .int .i64 t321, .int .i64 0, .int .i64 0]) ?_ 2 _ rfl; (with_reducible repeat (first | refine blk_drewN ?_ _ | refine blk_drew ?_ | refine blk_alloc ?_ _)); refine blk_put (cs := #[.int .i64 t320, .int .i64 0, .int .i64 0, .int .i64 0]) ?_ 1 _ rfl; (with_reducible repeat (first | refine blk_drewN ?_ _ | refine blk_drew ?_ | refine blk_alloc ?_ _)); refine blk_put (cs := #[.int .i64 0, .int .i64 0, .int .i64 0, .int .i64 0]) ?_ 0 _ rfl; (with_reducible repeat (first | refine blk_drewN ?_ _ | refine blk_drew ?_ | refine blk_alloc ?_ _)); exact BK325.out⟩, ⟨by repeat (first | (with_reducible first | exact HB.out | apply below_alloc | apply pw_below_drewN | apply below_drew1 | refine below_set ?_ GE302.out | refine below_set ?_ GE307.out | refine below_set ?_ GE313.out | refine below_set ?_ GE319.out | refine below_set ?_ GE325.out) | exact HB.out)⟩⟩
      · rw [if_neg c37] at H
        have c37b0 : (t318 == 0) = false := beq_eq_false_iff_ne.mpr c37
        have c37b1 : (t318 != 0) = true := bne_iff_ne.mpr c37
        have H' := Aside0.mk H
        clear H
        go_wp2
        go_meet
        case rel => exact ⟨_, (true), (by first | rfl | (simp; done) | (simp [*]; done)), H', ⟨by first | omega | exact Nat.le_refl _⟩, ⟨by (with_reducible repeat (first | refine blk_drewN ?_ _ | refine blk_drew ?_ | refine blk_alloc ?_ _)); refine blk_far ?_ NB302_325.out _; (with_reducible repeat (first | refine blk_drewN ?_ _ | refine blk_drew ?_ | refine blk_alloc ?_ _)); refine blk_far ?_ NB302_325.out _; (with_reducible repeat (first | refine blk_drewN ?_ _ | refine blk_drew ?_ | refine blk_alloc ?_ _)); refine blk_far ?_ NB302_325.out _; (with_reducible repeat (first | refine blk_drewN ?_ _ | refine blk_drew ?_ | refine blk_alloc ?_ _)); refine blk_far ?_ NB302_325.out _; (with_reducible repeat (first | refine blk_drewN ?_ _ | refine blk_drew ?_ | refine blk_alloc ?_ _)); exact BK302.out⟩, ⟨by (with_reducible repeat (first | refine blk_drewN ?_ _ | refine blk_drew ?_ | refine blk_alloc ?_ _)); refine blk_far ?_ NB307_325.out _; (with_reducible repeat (first | refine blk_drewN ?_ _ | refine blk_drew ?_ | refine blk_alloc ?_ _)); refine blk_far ?_ NB307_325.out _; (with_reducible repeat (first | refine blk_drewN ?_ _ | refine blk_drew ?_ | refine blk_alloc ?_ _)); refine blk_far ?_ NB307_325.out _; (with_reducible repeat (first | refine blk_drewN ?_ _ | refine blk_drew ?_ | refine blk_alloc ?_ _)); refine blk_far ?_ NB307_325.out _; (with_reducible repeat (first | refine blk_drewN ?_ _ | refine blk_drew ?_ | refine blk_alloc ?_ _)); exact BK307.out⟩, ⟨by (with_reducible repeat (first | refine blk_drewN ?_ _ | refine blk_drew ?_ | refine blk_alloc ?_ _)); refine blk_far ?_ NB313_325.out _; (with_reducible repeat (first | refine blk_drewN ?_ _ | refine blk_drew ?_ | refine blk_alloc ?_ _)); refine blk_far ?_ NB313_325.out _; (with_reducible repeat (first | refine blk_drewN ?_ _ | refine blk_drew ?_ | refine blk_alloc ?_ _)); refine blk_far ?_ NB313_325.out _; (with_reducible repeat (first | refine blk_drewN ?_ _ | refine blk_drew ?_ | refine blk_alloc ?_ _)); refine blk_far ?_ NB313_325.out _; (with_reducible repeat (first | refine blk_drewN ?_ _ | refine blk_drew ?_ | refine blk_alloc ?_ _)); exact BK313.out⟩, ⟨by (with_reducible repeat (first | refine blk_drewN ?_ _ | refine blk_drew ?_ | refine blk_alloc ?_ _)); refine blk_far ?_ NB319_325.out _; (with_reducible repeat (first | refine blk_drewN ?_ _ | refine blk_drew ?_ | refine blk_alloc ?_ _)); refine blk_far ?_ NB319_325.out _; (with_reducible repeat (first | refine blk_drewN ?_ _ | refine blk_drew ?_ | refine blk_alloc ?_ _)); refine blk_far ?_ NB319_325.out _; (with_reducible repeat (first | refine blk_drewN ?_ _ | refine blk_drew ?_ | refine blk_alloc ?_ _)); refine blk_far ?_ NB319_325.out _; (with_reducible repeat (first | refine blk_drewN ?_ _ | refine blk_drew ?_ | refine blk_alloc ?_ _)); exact BK319.out⟩, ⟨by (with_reducible repeat (first | refine blk_drewN ?_ _ | refine blk_drew ?_ | refine blk_alloc ?_ _)); refine blk_put (cs := #[.int .i64 t320, .int .i64 t321, .int .i64 t322, .int .i64 0]) ?_ 3 _ rfl; (with_reducible repeat (first | refine blk_drewN ?_ _ | refine blk_drew ?_ | refine blk_alloc ?_ _)); refine blk_put (cs := #[.int .i64 t320, .int .i64 t321, .int .i64 0, .int .i64 0]) ?_ 2 _ rfl; (with_reducible repeat (first | refine blk_drewN ?_ _ | refine blk_drew ?_ | refine blk_alloc ?_ _)); refine blk_put (cs := #[.int .i64 t320, .int .i64 0, .int .i64 0, .int .i64 0]) ?_ 1 _ rfl; (with_reducible repeat (first | refine blk_drewN ?_ _ | refine blk_drew ?_ | refine blk_alloc ?_ _)); refine blk_put (cs := #[.int .i64 0, .int .i64 0, .int .i64 0, .int .i64 0]) ?_ 0 _ rfl; (with_reducible repeat (first | refine blk_drewN ?_ _ | refine blk_drew ?_ | refine blk_alloc ?_ _)); exact BK325.out⟩, ⟨by repeat (first | (with_reducible first | exact HB.out | apply below_alloc | apply pw_below_drewN | apply below_drew1 | refine below_set ?_ GE302.out | refine below_set ?_ GE307.out | refine below_set ?_ GE313.out | refine below_set ?_ GE319.out | refine below_set ?_ GE325.out) | exact HB.out)⟩⟩
    · rw [if_neg c36] at H
      have c36b0 : (t312 == 0) = false := beq_eq_false_iff_ne.mpr c36
      have c36b1 : (t312 != 0) = true := bne_iff_ne.mpr c36
      (first | rw [c36b0] | (simp only [i64_w, i32_w]; rw [c36b0]) | skip)
      have H' := Aside0.mk H
      clear H
      go_wp2
      go_meet
      case rel => exact ⟨_, (true), (by first | rfl | (simp; done) | (simp [*]; done)), H', ⟨by first | omega | exact Nat.le_refl _⟩, ⟨by (with_reducible repeat (first | refine blk_drewN ?_ _ | refine blk_drew ?_ | refine blk_alloc ?_ _)); refine blk_far ?_ NB302_325.out _; (with_reducible repeat (first | refine blk_drewN ?_ _ | refine blk_drew ?_ | refine blk_alloc ?_ _)); refine blk_far ?_ NB302_325.out _; (with_reducible repeat (first | refine blk_drewN ?_ _ | refine blk_drew ?_ | refine blk_alloc ?_ _)); refine blk_far ?_ NB302_325.out _; (with_reducible repeat (first | refine blk_drewN ?_ _ | refine blk_drew ?_ | refine blk_alloc ?_ _)); refine blk_far ?_ NB302_325.out _; (with_reducible repeat (first | refine blk_drewN ?_ _ | refine blk_drew ?_ | refine blk_alloc ?_ _)); exact BK302.out⟩, ⟨by (with_reducible repeat (first | refine blk_drewN ?_ _ | refine blk_drew ?_ | refine blk_alloc ?_ _)); refine blk_far ?_ NB307_325.out _; (with_reducible repeat (first | refine blk_drewN ?_ _ | refine blk_drew ?_ | refine blk_alloc ?_ _)); refine blk_far ?_ NB307_325.out _; (with_reducible repeat (first | refine blk_drewN ?_ _ | refine blk_drew ?_ | refine blk_alloc ?_ _)); refine blk_far ?_ NB307_325.out _; (with_reducible repeat (first | refine blk_drewN ?_ _ | refine blk_drew ?_ | refine blk_alloc ?_ _)); refine blk_far ?_ NB307_325.out _; (with_reducible repeat (first | refine blk_drewN ?_ _ | refine blk_drew ?_ | refine blk_alloc ?_ _)); exact BK307.out⟩, ⟨by (with_reducible repeat (first | refine blk_drewN ?_ _ | refine blk_drew ?_ | refine blk_alloc ?_ _)); refine blk_far ?_ NB313_325.out _; (with_reducible repeat (first | refine blk_drewN ?_ _ | refine blk_drew ?_ | refine blk_alloc ?_ _)); refine blk_far ?_ NB313_325.out _; (with_reducible repeat (first | refine blk_drewN ?_ _ | refine blk_drew ?_ | refine blk_alloc ?_ _)); refine blk_far ?_ NB313_325.out _; (with_reducible repeat (first | refine blk_drewN ?_ _ | refine blk_drew ?_ | refine blk_alloc ?_ _)); refine blk_far ?_ NB313_325.out _; (with_reducible repeat (first | refine blk_drewN ?_ _ | refine blk_drew ?_ | refine blk_alloc ?_ _)); exact BK313.out⟩, ⟨by (with_reducible repeat (first | refine blk_drewN ?_ _ | refine blk_drew ?_ | refine blk_alloc ?_ _)); refine blk_far ?_ NB319_325.out _; (with_reducible repeat (first | refine blk_drewN ?_ _ | refine blk_drew ?_ | refine blk_alloc ?_ _)); refine blk_far ?_ NB319_325.out _; (with_reducible repeat (first | refine blk_drewN ?_ _ | refine blk_drew ?_ | refine blk_alloc ?_ _)); refine blk_far ?_ NB319_325.out _; (with_reducible repeat (first | refine blk_drewN ?_ _ | refine blk_drew ?_ | refine blk_alloc ?_ _)); refine blk_far ?_ NB319_325.out _; (with_reducible repeat (first | refine blk_drewN ?_ _ | refine blk_drew ?_ | refine blk_alloc ?_ _)); exact BK319.out⟩, ⟨by (with_reducible repeat (first | refine blk_drewN ?_ _ | refine blk_drew ?_ | refine blk_alloc ?_ _)); refine blk_put (cs := #[.int .i64 t320, .int .i64 t321, .int .i64 t322, .int .i64 0]) ?_ 3 _ rfl; (with_reducible repeat (first | refine blk_drewN ?_ _ | refine blk_drew ?_ | refine blk_alloc ?_ _)); refine blk_put (cs := #[.int .i64 t320, .int .i64 t321, .int .i64 0, .int .i64 0]) ?_ 2 _ rfl; (with_reducible repeat (first | refine blk_drewN ?_ _ | refine blk_drew ?_ | refine blk_alloc ?_ _)); refine blk_put (cs := #[.int .i64 t320, .int .i64 0, .int .i64 0, .int .i64 0]) ?_ 1 _ rfl; (with_reducible repeat (first | refine blk_drewN ?_ _ | refine blk_drew ?_ | refine blk_alloc ?_ _)); refine blk_put (cs := #[.int .i64 0, .int .i64 0, .int .i64 0, .int .i64 0]) ?_ 0 _ rfl; (with_reducible repeat (first | refine blk_drewN ?_ _ | refine blk_drew ?_ | refine blk_alloc ?_ _)); exact BK325.out⟩, ⟨by repeat (first | (with_reducible first | exact HB.out | apply below_alloc | apply pw_below_drewN | apply below_drew1 | refine below_set ?_ GE302.out | refine below_set ?_ GE307.out | refine below_set ?_ GE313.out | refine below_set ?_ GE319.out | refine below_set ?_ GE325.out) | exact HB.out)⟩⟩
  case rest =>
    clear HC9
    try clear c1
    try clear c2
    try clear p2
    try clear c3
    try clear p6
    try clear c7
    try clear c10
    try clear c14
    try clear c18
    try clear c19
    try clear c24
    try clear c25
    try clear c26
    try clear c31
    try clear c32
    try clear c33
    try clear c34
    try clear c36
    try clear c36b0
    try clear c36b1
    try clear c37
    try clear c37b0
    try clear c37b1
    try clear hcz11_0
    try clear hcz11_1
    try clear hcz11_2
    try clear hcz11_3
    try clear hcz11_4
    try clear hcz11_5
    try clear hcz15_0
    try clear hcz15_1
    try clear hcz15_2
    try clear hcz15_3
    try clear hcz20_0
    try clear hcz20_1
    try clear hcz20_2
    try clear hcz20_3
    try clear hcz21_0
    try clear hcz21_1
    try clear hcz21_2
    try clear hcz21_3
    try clear hcz27_0
    try clear hcz27_1
    try clear hcz27_2
    try clear hcz27_3
    try clear hcz28_0
    try clear hcz28_1
    try clear hcz28_2
    try clear hcz28_3
    try clear hcz35_0
    try clear hcz35_1
    try clear hcz35_2
    try clear hcz35_3
    try clear hfz11_0
    try clear hfz11_1
    try clear hfz11_2
    try clear hfz11_3
    try clear hfz11_4
    try clear hfz11_5
    try clear hfz15_0
    try clear hfz15_1
    try clear hfz15_2
    try clear hfz15_3
    try clear hfz20_0
    try clear hfz20_1
    try clear hfz20_2
    try clear hfz20_3
    try clear hfz21_0
    try clear hfz21_1
    try clear hfz21_2
    try clear hfz21_3
    try clear hfz27_0
    try clear hfz27_1
    try clear hfz27_2
    try clear hfz27_3
    try clear hfz28_0
    try clear hfz28_1
    try clear hfz28_2
    try clear hfz28_3
    try clear hfz35_0
    try clear hfz35_1
    try clear hfz35_2
    try clear hfz35_3
    obtain ⟨kq, x82_8, rfl, HA, HJ8, BK302, BK307, BK313, BK319, BK325, HB⟩ := hcut
    cases kq with
    | zero => exact absurd HA.out (by simp [timesynclaw21_SampleShifts.j0])
    | succ kj8 =>
      have H := HA.out
      clear HA
      simp only [timesynclaw21_SampleShifts.j0] at H
      by_cases c38 : x82_8 = true
      · subst c38
        have H1 : (some false) = some r := by rw [if_pos rfl] at H; exact H
        clear H
        have H := H1
        clear H1
        obtain rfl := Option.some.inj H
        go_wp2
        go_ret
        exact ⟨by first | rfl | (simp [errW_none, errW_some] <;> rfl) | (simp [*, errW_none, errW_some] <;> rfl), by repeat (first | (with_reducible first | exact HB.out | apply below_alloc | apply pw_below_drewN | apply below_drew1 | refine below_set ?_ GE302.out | refine below_set ?_ GE307.out | refine below_set ?_ GE313.out | refine below_set ?_ GE319.out | refine below_set ?_ GE325.out) | exact HB.out)⟩
      · replace c38 := Bool.eq_false_iff.mpr c38
        subst c38
        have H1 : (if ((wrap64 (t314 - (wrap64 (a1)))) == t308 && (t315 == t309 && (t316 == t310 && (t317 == t311)))) = true then (if (t320 == t308 && (t321 == t309 && (t322 == t310 && ((wrap64 (t323 - (wrap64 (a1)))) == t311)))) = true then ((timesynclaw21_awake.f kj8).bind fun t326 => (timesynclaw21_SampleShifts.j1 kj8 t326)) else (timesynclaw21_SampleShifts.j1 kj8 false)) else (timesynclaw21_SampleShifts.j1 kj8 false)) = some r := by rw [if_neg (show ¬ (false = true) by decide)] at H; exact H
        clear H
        have H := H1
        clear H1
        have HC39 := Aside0.mk H
        clear H
        have hnb40 := NB319_302.out
        have hnc40 := NB302_319.out
        have hnb41 := NB319_307.out
        have hnc41 := NB307_319.out
        have hnb42 := NB319_313.out
        have hnc42 := NB313_319.out
        have hnb43 := NB319_325.out
        have hnc43 := NB325_319.out
        obtain ⟨hcz44_0, hcz44_1, hcz44_2, hcz44_3⟩ := cs4 BK319.out
        obtain ⟨hfz44_0, hfz44_1, hfz44_2, hfz44_3⟩ := fs4 BK319.out
        have hnb45 := NB325_302.out
        have hnc45 := NB302_325.out
        have hnb46 := NB325_307.out
        have hnc46 := NB307_325.out
        have hnb47 := NB325_313.out
        have hnc47 := NB313_325.out
        obtain ⟨hcz48_0, hcz48_1, hcz48_2, hcz48_3⟩ := cs4 BK325.out
        obtain ⟨hfz48_0, hfz48_1, hfz48_2, hfz48_3⟩ := fs4 BK325.out
        go_upto_region 12 with (fail)
        go_cut [8] (fun v8 wc => ∃ (kq : Nat) (x8_38 : Bool), v8 = .bool x8_38 ∧ Aside0 (timesynclaw21_SampleShifts.j1 kq x8_38 = some r) ∧ Aside0 (kq ≤ kj8) ∧ Aside0 (wc.heap[gb302]? = some (.cells #[.int .u32 a0_0, .int .u32 a0_1, .int .u32 a0_2, .int .i32 a0_3, .int .i32 a0_4, .int .i32 a0_5] 39 (0, 0))) ∧ Aside0 (wc.heap[gb307]? = some (.cells #[.int .i64 (wrap64 (t303 + (wrap64 (a1)))), .int .i64 (wrap64 (t304 + (wrap64 (a1)))), .int .i64 (wrap64 (t305 + (wrap64 (a1)))), .int .i64 (wrap64 (t306 + (wrap64 (a1))))] 23 (0, 0))) ∧ Aside0 (wc.heap[gb313]? = some (.cells #[.int .i64 t308, .int .i64 t309, .int .i64 t310, .int .i64 t311] 25 (0, 0))) ∧ Aside0 (wc.heap[gb319]? = some (.cells #[.int .i64 (wrap64 (t314 - (wrap64 (a1)))), .int .i64 t315, .int .i64 t316, .int .i64 t317] 25 (0, 0))) ∧ Aside0 (wc.heap[gb325]? = some (.cells #[.int .i64 t320, .int .i64 t321, .int .i64 t322, .int .i64 (wrap64 (t323 - (wrap64 (a1))))] 25 (0, 0))) ∧ Aside0 (Below w.heap.size w wc))
        case first =>
          have H := HC39.out
          clear HC39
          by_cases c49 : ((wrap64 (t314 - (wrap64 (a1)))) == t308 && (t315 == t309 && (t316 == t310 && (t317 == t311)))) = true
          · rw [if_pos c49] at H
            have c49b0 : ((wrap64 (t314 - (wrap64 (a1)))) == t308 && (t315 == t309 && (t316 == t310 && (t317 == t311)))) = true := c49
            (try (have c49b1 : decide ((wrap64 (t314 - (wrap64 (a1)))) = t308 && (t315 == t309 && (t316 == t310 && (t317 == t311)))) = true := by simpa using c49))
            (try (have c49b2 : ((wrap64 (t314 - (wrap64 (a1)))) == t308 && (t315 == t309 && (t316 == t310 && (t317 == t311)))) = true := by simpa using c49))
            clear c49
            (first | rw [c49b0] | (simp only [i64_w, i32_w]; rw [c49b0]) | skip)
            by_cases c50 : (t320 == t308 && (t321 == t309 && (t322 == t310 && ((wrap64 (t323 - (wrap64 (a1)))) == t311)))) = true
            · rw [if_pos c50] at H
              have c50b0 : (t320 == t308 && (t321 == t309 && (t322 == t310 && ((wrap64 (t323 - (wrap64 (a1)))) == t311)))) = true := c50
              (try (have c50b1 : decide (t320 = t308 && (t321 == t309 && (t322 == t310 && ((wrap64 (t323 - (wrap64 (a1)))) == t311)))) = true := by simpa using c50))
              (try (have c50b2 : (t320 == t308 && (t321 == t309 && (t322 == t310 && ((wrap64 (t323 - (wrap64 (a1)))) == t311)))) = true := by simpa using c50))
              clear c50
              replace H := Option.bind_eq_some_iff.mp H
              obtain ⟨t326, A510, H⟩ := H
              replace H : (timesynclaw21_SampleShifts.j1 kj8 t326) = some r := H
              have A51 := Aside0.mk A510
              clear A510
              have H' := Aside0.mk H
              clear H
              have hnb52 := NB319_302.out
              have hnc52 := NB302_319.out
              have hnb53 := NB319_307.out
              have hnc53 := NB307_319.out
              have hnb54 := NB319_313.out
              have hnc54 := NB313_319.out
              have hnb55 := NB319_325.out
              have hnc55 := NB325_319.out
              obtain ⟨hcz56_0, hcz56_1, hcz56_2, hcz56_3⟩ := cs4 BK319.out
              obtain ⟨hfz56_0, hfz56_1, hfz56_2, hfz56_3⟩ := fs4 BK319.out
              have hnb57 := NB313_302.out
              have hnc57 := NB302_313.out
              have hnb58 := NB313_307.out
              have hnc58 := NB307_313.out
              have hnb59 := NB313_325.out
              have hnc59 := NB325_313.out
              obtain ⟨hcz60_0, hcz60_1, hcz60_2, hcz60_3⟩ := cs4 BK313.out
              obtain ⟨hfz60_0, hfz60_1, hfz60_2, hfz60_3⟩ := fs4 BK313.out
              have hnb61 := NB325_302.out
              have hnc61 := NB302_325.out
              have hnb62 := NB325_307.out
              have hnc62 := NB307_325.out
              obtain ⟨hcz63_0, hcz63_1, hcz63_2, hcz63_3⟩ := cs4 BK325.out
              obtain ⟨hfz63_0, hfz63_1, hfz63_2, hfz63_3⟩ := fs4 BK325.out
              go_wp2_with (first | (go_at_call 12; (with_reducible refine (timesynclaw21_awake.calls kj8  t326 _ A51.out).mono ?_); rintro e w64 ⟨rfl, hb⟩; have n0_ := Aside0.mk (blk_below (g := gb302) (o := .cells #[.int .u32 a0_0, .int .u32 a0_1, .int .u32 a0_2, .int .i32 a0_3, .int .i32 a0_4, .int .i32 a0_5] 39 (0, 0)) (by (with_reducible repeat (first | refine blk_drewN ?_ _ | refine blk_drew ?_ | refine blk_alloc ?_ _)); refine blk_far ?_ NB302_325.out _; (with_reducible repeat (first | refine blk_drewN ?_ _ | refine blk_drew ?_ | refine blk_alloc ?_ _)); refine blk_far ?_ NB302_319.out _; (with_reducible repeat (first | refine blk_drewN ?_ _ | refine blk_drew ?_ | refine blk_alloc ?_ _)); exact BK302.out) hb); have n1_ := Aside0.mk (blk_below (g := gb307) (o := .cells #[.int .i64 (wrap64 (t303 + (wrap64 (a1)))), .int .i64 (wrap64 (t304 + (wrap64 (a1)))), .int .i64 (wrap64 (t305 + (wrap64 (a1)))), .int .i64 (wrap64 (t306 + (wrap64 (a1))))] 23 (0, 0)) (by (with_reducible repeat (first | refine blk_drewN ?_ _ | refine blk_drew ?_ | refine blk_alloc ?_ _)); refine blk_far ?_ NB307_325.out _; (with_reducible repeat (first | refine blk_drewN ?_ _ | refine blk_drew ?_ | refine blk_alloc ?_ _)); refine blk_far ?_ NB307_319.out _; (with_reducible repeat (first | refine blk_drewN ?_ _ | refine blk_drew ?_ | refine blk_alloc ?_ _)); exact BK307.out) hb); have n2_ := Aside0.mk (blk_below (g := gb313) (o := .cells #[.int .i64 t308, .int .i64 t309, .int .i64 t310, .int .i64 t311] 25 (0, 0)) (by (with_reducible repeat (first | refine blk_drewN ?_ _ | refine blk_drew ?_ | refine blk_alloc ?_ _)); refine blk_far ?_ NB313_325.out _; (with_reducible repeat (first | refine blk_drewN ?_ _ | refine blk_drew ?_ | refine blk_alloc ?_ _)); refine blk_far ?_ NB313_319.out _; (with_reducible repeat (first | refine blk_drewN ?_ _ | refine blk_drew ?_ | refine blk_alloc ?_ _)); exact BK313.out) hb); have n3_ := Aside0.mk (blk_below (g := gb319) (o := .cells #[.int .i64 (wrap64 (t314 - (wrap64 (a1)))), .int .i64 t315, .int .i64 t316, .int .i64 t317] 25 (0, 0)) (by (with_reducible repeat (first | refine blk_drewN ?_ _ | refine blk_drew ?_ | refine blk_alloc ?_ _)); refine blk_far ?_ NB319_325.out _; (with_reducible repeat (first | refine blk_drewN ?_ _ | refine blk_drew ?_ | refine blk_alloc ?_ _)); refine blk_put (cs := #[.int .i64 t314, .int .i64 t315, .int .i64 t316, .int .i64 t317]) ?_ 0 _ rfl; (with_reducible repeat (first | refine blk_drewN ?_ _ | refine blk_drew ?_ | refine blk_alloc ?_ _)); exact BK319.out) hb); have n4_ := Aside0.mk (blk_below (g := gb325) (o := .cells #[.int .i64 t320, .int .i64 t321, .int .i64 t322, .int .i64 (wrap64 (t323 - (wrap64 (a1))))] 25 (0, 0)) (by (with_reducible repeat (first | refine blk_drewN ?_ _ | refine blk_drew ?_ | refine blk_alloc ?_ _)); refine blk_put (cs := #[.int .i64 t320, .int .i64 t321, .int .i64 t322, .int .i64 t323]) ?_ 3 _ rfl; (with_reducible repeat (first | refine blk_drewN ?_ _ | refine blk_drew ?_ | refine blk_alloc ?_ _)); refine blk_far ?_ NB325_319.out _; (with_reducible repeat (first | refine blk_drewN ?_ _ | refine blk_drew ?_ | refine blk_alloc ?_ _)); exact BK325.out) hb); have n5_ := Aside0.mk (below_step (by repeat (first | (with_reducible first | exact HB.out | apply below_alloc | apply pw_below_drewN | apply below_drew1 | refine below_set ?_ GE302.out | refine below_set ?_ GE307.out | refine below_set ?_ GE313.out | refine below_set ?_ GE319.out | refine below_set ?_ GE325.out) | exact HB.out)) hb); clear BK302; clear BK307; clear BK313; clear BK319; clear BK325; clear HB; have BK302 := n0_; have BK307 := n1_; have BK313 := n2_; have BK319 := n3_; have BK325 := n4_; have HB := n5_; clear n0_ n1_ n2_ n3_ n4_ n5_; (try clear hb); (try clear hb2); (try clear hk); (try clear hi)))
              go_meet
              case rel => exact ⟨_, (t326), (by first | rfl | (simp; done) | (simp [*]; done)), H', ⟨by have := HJ8.out; first | omega | exact Nat.le_refl _⟩, ⟨by (with_reducible repeat (first | refine blk_drewN ?_ _ | refine blk_drew ?_ | refine blk_alloc ?_ _)); exact BK302.out⟩, ⟨by (with_reducible repeat (first | refine blk_drewN ?_ _ | refine blk_drew ?_ | refine blk_alloc ?_ _)); exact BK307.out⟩, ⟨by (with_reducible repeat (first | refine blk_drewN ?_ _ | refine blk_drew ?_ | refine blk_alloc ?_ _)); exact BK313.out⟩, ⟨by (with_reducible repeat (first | refine blk_drewN ?_ _ | refine blk_drew ?_ | refine blk_alloc ?_ _)); exact BK319.out⟩, ⟨by (with_reducible repeat (first | refine blk_drewN ?_ _ | refine blk_drew ?_ | refine blk_alloc ?_ _)); exact BK325.out⟩, ⟨by repeat (first | (with_reducible first | exact HB.out | apply below_alloc | apply pw_below_drewN | apply below_drew1 | refine below_set ?_ GE302.out | refine below_set ?_ GE307.out | refine below_set ?_ GE313.out | refine below_set ?_ GE319.out | refine below_set ?_ GE325.out) | exact HB.out)⟩⟩
            · rw [if_neg c50] at H
              have c50b0 : (t320 == t308 && (t321 == t309 && (t322 == t310 && ((wrap64 (t323 - (wrap64 (a1)))) == t311)))) = false := by simpa using c50
              (try (have c50b1 : decide (t320 = t308 && (t321 == t309 && (t322 == t310 && ((wrap64 (t323 - (wrap64 (a1)))) == t311)))) = false := by simpa using c50))
              (try (have c50b2 : (t320 == t308 && (t321 == t309 && (t322 == t310 && ((wrap64 (t323 - (wrap64 (a1)))) == t311)))) = false := by simpa using c50))
              (try (have c50b3 : ¬ (t320 = t308 && (t321 == t309 && (t322 == t310 && ((wrap64 (t323 - (wrap64 (a1)))) == t311)))) := by simpa using c50))
              clear c50
              have H' := Aside0.mk H
              clear H
              have hnb65 := NB319_302.out
              have hnc65 := NB302_319.out
              have hnb66 := NB319_307.out
              have hnc66 := NB307_319.out
              have hnb67 := NB319_313.out
              have hnc67 := NB313_319.out
              have hnb68 := NB319_325.out
              have hnc68 := NB325_319.out
              obtain ⟨hcz69_0, hcz69_1, hcz69_2, hcz69_3⟩ := cs4 BK319.out
              obtain ⟨hfz69_0, hfz69_1, hfz69_2, hfz69_3⟩ := fs4 BK319.out
              have hnb70 := NB313_302.out
              have hnc70 := NB302_313.out
              have hnb71 := NB313_307.out
              have hnc71 := NB307_313.out
              have hnb72 := NB313_325.out
              have hnc72 := NB325_313.out
              obtain ⟨hcz73_0, hcz73_1, hcz73_2, hcz73_3⟩ := cs4 BK313.out
              obtain ⟨hfz73_0, hfz73_1, hfz73_2, hfz73_3⟩ := fs4 BK313.out
              have hnb74 := NB325_302.out
              have hnc74 := NB302_325.out
              have hnb75 := NB325_307.out
              have hnc75 := NB307_325.out
              obtain ⟨hcz76_0, hcz76_1, hcz76_2, hcz76_3⟩ := cs4 BK325.out
              obtain ⟨hfz76_0, hfz76_1, hfz76_2, hfz76_3⟩ := fs4 BK325.out
              go_wp2
              go_meet
              case rel => exact ⟨_, (false), (by first | rfl | (simp; done) | (simp [*]; done)), H', ⟨by have := HJ8.out; first | omega | exact Nat.le_refl _⟩, ⟨by (with_reducible repeat (first | refine blk_drewN ?_ _ | refine blk_drew ?_ | refine blk_alloc ?_ _)); refine blk_far ?_ NB302_325.out _; (with_reducible repeat (first | refine blk_drewN ?_ _ | refine blk_drew ?_ | refine blk_alloc ?_ _)); refine blk_far ?_ NB302_319.out _; (with_reducible repeat (first | refine blk_drewN ?_ _ | refine blk_drew ?_ | refine blk_alloc ?_ _)); exact BK302.out⟩, ⟨by (with_reducible repeat (first | refine blk_drewN ?_ _ | refine blk_drew ?_ | refine blk_alloc ?_ _)); refine blk_far ?_ NB307_325.out _; (with_reducible repeat (first | refine blk_drewN ?_ _ | refine blk_drew ?_ | refine blk_alloc ?_ _)); refine blk_far ?_ NB307_319.out _; (with_reducible repeat (first | refine blk_drewN ?_ _ | refine blk_drew ?_ | refine blk_alloc ?_ _)); exact BK307.out⟩, ⟨by (with_reducible repeat (first | refine blk_drewN ?_ _ | refine blk_drew ?_ | refine blk_alloc ?_ _)); refine blk_far ?_ NB313_325.out _; (with_reducible repeat (first | refine blk_drewN ?_ _ | refine blk_drew ?_ | refine blk_alloc ?_ _)); refine blk_far ?_ NB313_319.out _; (with_reducible repeat (first | refine blk_drewN ?_ _ | refine blk_drew ?_ | refine blk_alloc ?_ _)); exact BK313.out⟩, ⟨by (with_reducible repeat (first | refine blk_drewN ?_ _ | refine blk_drew ?_ | refine blk_alloc ?_ _)); refine blk_far ?_ NB319_325.out _; (with_reducible repeat (first | refine blk_drewN ?_ _ | refine blk_drew ?_ | refine blk_alloc ?_ _)); refine blk_put (cs := #[.int .i64 t314, .int .i64 t315, .int .i64 t316, .int .i64 t317]) ?_ 0 _ rfl; (with_reducible repeat (first | refine blk_drewN ?_ _ | refine blk_drew ?_ | refine blk_alloc ?_ _)); exact BK319.out⟩, ⟨by (with_reducible repeat (first | refine blk_drewN ?_ _ | refine blk_drew ?_ | refine blk_alloc ?_ _)); refine blk_put (cs := #[.int .i64 t320, .int .i64 t321, .int .i64 t322, .int .i64 t323]) ?_ 3 _ rfl; (with_reducible repeat (first | refine blk_drewN ?_ _ | refine blk_drew ?_ | refine blk_alloc ?_ _)); refine blk_far ?_ NB325_319.out _; (with_reducible repeat (first | refine blk_drewN ?_ _ | refine blk_drew ?_ | refine blk_alloc ?_ _)); exact BK325.out⟩, ⟨by repeat (first | (with_reducible first | exact HB.out | apply below_alloc | apply pw_below_drewN | apply below_drew1 | refine below_set ?_ GE302.out | refine below_set ?_ GE307.out | refine below_set ?_ GE313.out | refine below_set ?_ GE319.out | refine below_set ?_ GE325.out) | exact HB.out)⟩⟩
          · rw [if_neg c49] at H
            have c49b0 : ((wrap64 (t314 - (wrap64 (a1)))) == t308 && (t315 == t309 && (t316 == t310 && (t317 == t311)))) = false := by simpa using c49
            (try (have c49b1 : decide ((wrap64 (t314 - (wrap64 (a1)))) = t308 && (t315 == t309 && (t316 == t310 && (t317 == t311)))) = false := by simpa using c49))
            (try (have c49b2 : ((wrap64 (t314 - (wrap64 (a1)))) == t308 && (t315 == t309 && (t316 == t310 && (t317 == t311)))) = false := by simpa using c49))
            (try (have c49b3 : ¬ ((wrap64 (t314 - (wrap64 (a1)))) = t308 && (t315 == t309 && (t316 == t310 && (t317 == t311)))) := by simpa using c49))
            clear c49
            (first | rw [c49b0] | (simp only [i64_w, i32_w]; rw [c49b0]) | skip)
            have H' := Aside0.mk H
            clear H
            have hnb77 := NB319_302.out
            have hnc77 := NB302_319.out
            have hnb78 := NB319_307.out
            have hnc78 := NB307_319.out
            have hnb79 := NB319_313.out
            have hnc79 := NB313_319.out
            have hnb80 := NB319_325.out
            have hnc80 := NB325_319.out
            obtain ⟨hcz81_0, hcz81_1, hcz81_2, hcz81_3⟩ := cs4 BK319.out
            obtain ⟨hfz81_0, hfz81_1, hfz81_2, hfz81_3⟩ := fs4 BK319.out
            have hnb82 := NB313_302.out
            have hnc82 := NB302_313.out
            have hnb83 := NB313_307.out
            have hnc83 := NB307_313.out
            have hnb84 := NB313_325.out
            have hnc84 := NB325_313.out
            obtain ⟨hcz85_0, hcz85_1, hcz85_2, hcz85_3⟩ := cs4 BK313.out
            obtain ⟨hfz85_0, hfz85_1, hfz85_2, hfz85_3⟩ := fs4 BK313.out
            go_wp2
            go_meet
            case rel => exact ⟨_, (false), (by first | rfl | (simp; done) | (simp [*]; done)), H', ⟨by have := HJ8.out; first | omega | exact Nat.le_refl _⟩, ⟨by (with_reducible repeat (first | refine blk_drewN ?_ _ | refine blk_drew ?_ | refine blk_alloc ?_ _)); refine blk_far ?_ NB302_325.out _; (with_reducible repeat (first | refine blk_drewN ?_ _ | refine blk_drew ?_ | refine blk_alloc ?_ _)); refine blk_far ?_ NB302_319.out _; (with_reducible repeat (first | refine blk_drewN ?_ _ | refine blk_drew ?_ | refine blk_alloc ?_ _)); exact BK302.out⟩, ⟨by (with_reducible repeat (first | refine blk_drewN ?_ _ | refine blk_drew ?_ | refine blk_alloc ?_ _)); refine blk_far ?_ NB307_325.out _; (with_reducible repeat (first | refine blk_drewN ?_ _ | refine blk_drew ?_ | refine blk_alloc ?_ _)); refine blk_far ?_ NB307_319.out _; (with_reducible repeat (first | refine blk_drewN ?_ _ | refine blk_drew ?_ | refine blk_alloc ?_ _)); exact BK307.out⟩, ⟨by (with_reducible repeat (first | refine blk_drewN ?_ _ | refine blk_drew ?_ | refine blk_alloc ?_ _)); refine blk_far ?_ NB313_325.out _; (with_reducible repeat (first | refine blk_drewN ?_ _ | refine blk_drew ?_ | refine blk_alloc ?_ _)); refine blk_far ?_ NB313_319.out _; (with_reducible repeat (first | refine blk_drewN ?_ _ | refine blk_drew ?_ | refine blk_alloc ?_ _)); exact BK313.out⟩, ⟨by (with_reducible repeat (first | refine blk_drewN ?_ _ | refine blk_drew ?_ | refine blk_alloc ?_ _)); refine blk_far ?_ NB319_325.out _; (with_reducible repeat (first | refine blk_drewN ?_ _ | refine blk_drew ?_ | refine blk_alloc ?_ _)); refine blk_put (cs := #[.int .i64 t314, .int .i64 t315, .int .i64 t316, .int .i64 t317]) ?_ 0 _ rfl; (with_reducible repeat (first | refine blk_drewN ?_ _ | refine blk_drew ?_ | refine blk_alloc ?_ _)); exact BK319.out⟩, ⟨by (with_reducible repeat (first | refine blk_drewN ?_ _ | refine blk_drew ?_ | refine blk_alloc ?_ _)); refine blk_put (cs := #[.int .i64 t320, .int .i64 t321, .int .i64 t322, .int .i64 t323]) ?_ 3 _ rfl; (with_reducible repeat (first | refine blk_drewN ?_ _ | refine blk_drew ?_ | refine blk_alloc ?_ _)); refine blk_far ?_ NB325_319.out _; (with_reducible repeat (first | refine blk_drewN ?_ _ | refine blk_drew ?_ | refine blk_alloc ?_ _)); exact BK325.out⟩, ⟨by repeat (first | (with_reducible first | exact HB.out | apply below_alloc | apply pw_below_drewN | apply below_drew1 | refine below_set ?_ GE302.out | refine below_set ?_ GE307.out | refine below_set ?_ GE313.out | refine below_set ?_ GE319.out | refine below_set ?_ GE325.out) | exact HB.out)⟩⟩
        case rest =>
          clear HC39
          try clear c1
          try clear c2
          try clear p2
          try clear c3
          try clear c4
          try clear c5
          try clear c6
          try clear p6
          try clear c7
          try clear c8
          try clear c10
          try clear c14
          try clear c18
          try clear c19
          try clear c24
          try clear c25
          try clear c26
          try clear c31
          try clear c32
          try clear c33
          try clear c34
          try clear c36
          try clear c36b0
          try clear c36b1
          try clear c37
          try clear c37b0
          try clear c37b1
          try clear c38
          try clear c40
          try clear c41
          try clear c42
          try clear c43
          try clear c45
          try clear c46
          try clear c47
          try clear c49
          try clear c49b0
          try clear c49b1
          try clear c49b2
          try clear c50
          try clear c50b0
          try clear c50b1
          try clear c50b2
          try clear c52
          try clear c53
          try clear c54
          try clear c55
          try clear c57
          try clear c58
          try clear c59
          try clear c61
          try clear c62
          try clear p64
          try clear c65
          try clear c66
          try clear c67
          try clear c68
          try clear c70
          try clear c71
          try clear c72
          try clear c74
          try clear c75
          try clear c77
          try clear c78
          try clear c79
          try clear c80
          try clear c82
          try clear c83
          try clear c84
          try clear hcz11_0
          try clear hcz11_1
          try clear hcz11_2
          try clear hcz11_3
          try clear hcz11_4
          try clear hcz11_5
          try clear hcz15_0
          try clear hcz15_1
          try clear hcz15_2
          try clear hcz15_3
          try clear hcz20_0
          try clear hcz20_1
          try clear hcz20_2
          try clear hcz20_3
          try clear hcz21_0
          try clear hcz21_1
          try clear hcz21_2
          try clear hcz21_3
          try clear hcz27_0
          try clear hcz27_1
          try clear hcz27_2
          try clear hcz27_3
          try clear hcz28_0
          try clear hcz28_1
          try clear hcz28_2
          try clear hcz28_3
          try clear hcz35_0
          try clear hcz35_1
          try clear hcz35_2
          try clear hcz35_3
          try clear hcz44_0
          try clear hcz44_1
          try clear hcz44_2
          try clear hcz44_3
          try clear hcz48_0
          try clear hcz48_1
          try clear hcz48_2
          try clear hcz48_3
          try clear hcz56_0
          try clear hcz56_1
          try clear hcz56_2
          try clear hcz56_3
          try clear hcz60_0
          try clear hcz60_1
          try clear hcz60_2
          try clear hcz60_3
          try clear hcz63_0
          try clear hcz63_1
          try clear hcz63_2
          try clear hcz63_3
          try clear hcz69_0
          try clear hcz69_1
          try clear hcz69_2
          try clear hcz69_3
          try clear hcz73_0
          try clear hcz73_1
          try clear hcz73_2
          try clear hcz73_3
          try clear hcz76_0
          try clear hcz76_1
          try clear hcz76_2
          try clear hcz76_3
          try clear hcz81_0
          try clear hcz81_1
          try clear hcz81_2
          try clear hcz81_3
          try clear hcz85_0
          try clear hcz85_1
          try clear hcz85_2
          try clear hcz85_3
          try clear hfz11_0
          try clear hfz11_1
          try clear hfz11_2
          try clear hfz11_3
          try clear hfz11_4
          try clear hfz11_5
          try clear hfz15_0
          try clear hfz15_1
          try clear hfz15_2
          try clear hfz15_3
          try clear hfz20_0
          try clear hfz20_1
          try clear hfz20_2
          try clear hfz20_3
          try clear hfz21_0
          try clear hfz21_1
          try clear hfz21_2
          try clear hfz21_3
          try clear hfz27_0
          try clear hfz27_1
          try clear hfz27_2
          try clear hfz27_3
          try clear hfz28_0
          try clear hfz28_1
          try clear hfz28_2
          try clear hfz28_3
          try clear hfz35_0
          try clear hfz35_1
          try clear hfz35_2
          try clear hfz35_3
          try clear hfz44_0
          try clear hfz44_1
          try clear hfz44_2
          try clear hfz44_3
          try clear hfz48_0
          try clear hfz48_1
          try clear hfz48_2
          try clear hfz48_3
          try clear hfz56_0
          try clear hfz56_1
          try clear hfz56_2
          try clear hfz56_3
          try clear hfz60_0
          try clear hfz60_1
          try clear hfz60_2
          try clear hfz60_3
          try clear hfz63_0
          try clear hfz63_1
          try clear hfz63_2
          try clear hfz63_3
          try clear hfz69_0
          try clear hfz69_1
          try clear hfz69_2
          try clear hfz69_3
          try clear hfz73_0
          try clear hfz73_1
          try clear hfz73_2
          try clear hfz73_3
          try clear hfz76_0
          try clear hfz76_1
          try clear hfz76_2
          try clear hfz76_3
          try clear hfz81_0
          try clear hfz81_1
          try clear hfz81_2
          try clear hfz81_3
          try clear hfz85_0
          try clear hfz85_1
          try clear hfz85_2
          try clear hfz85_3
          try clear p2
          try clear p6
          obtain ⟨kq, x8_38, rfl, HA, HJ38, BK302, BK307, BK313, BK319, BK325, HB⟩ := hcut
          cases kq with
          | zero => exact absurd HA.out (by simp [timesynclaw21_SampleShifts.j1])
          | succ kj38 =>
            have H := HA.out
            clear HA
            simp only [timesynclaw21_SampleShifts.j1] at H
            obtain rfl := Option.some.inj H
            go_wp2
            go_ret
            exact ⟨by first | rfl | (simp [errW_none, errW_some] <;> rfl) | (simp [*, errW_none, errW_some] <;> rfl), by repeat (first | (with_reducible first | exact HB.out | apply below_alloc | apply pw_below_drewN | apply below_drew1 | refine below_set ?_ GE302.out | refine below_set ?_ GE307.out | refine below_set ?_ GE313.out | refine below_set ?_ GE319.out | refine below_set ?_ GE325.out) | exact HB.out)⟩

end Go.Proofs.Ytkldnopfgcenhaa.PAll
