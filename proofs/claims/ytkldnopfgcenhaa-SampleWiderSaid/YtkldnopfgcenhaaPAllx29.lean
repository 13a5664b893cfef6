-- A text of this session, written by a program of its own (wip/tools).
import Derived.Test.YtkldnopfgcenhaaPAllx0
import Derived.Test.YtkldnopfgcenhaaPAllx1
import Derived.Test.YtkldnopfgcenhaaPAllx2
import Derived.Test.YtkldnopfgcenhaaPAllx15
import Derived.Test.YtkldnopfgcenhaaPAllx27
import Derived.Test.YtkldnopfgcenhaaPAllx28
namespace Go.Proofs.Ytkldnopfgcenhaa.PAll
open Go.RowKit Go.Proofs.YtkldnopfgcenhaaW.PrintWords Go.Proofs.YtkldnopfgcenhaaW.PrintLast Go.Proofs.YtkldnopfgcenhaaW.PrintMore
attribute [local go_sem] max2_int min2_int max_two min_two max_three min_three max_four min_four   -- for this text's walks alone
set_option linter.unusedVariables false
set_option linter.unusedSimpArgs false

attribute [local go_sem high] eqA25 eqA34
/-! ### timesynclaw21_awake: function 12 -/
def timesynclaw21_awake.j0 : Nat → Bool → Option (Bool)
  | 0, _ => none
  | k + 1, x0 => some x0
def timesynclaw21_awake.f (k : Nat)  : Option (Bool) := (sample_Of.f k 10 27 30 20 1 0).bind fun bt226 => ((sample_Of.f k 0 0 0 1 5 500000).bind fun bt232 => (if (bt226.1 == 13 && (bt226.2.1 == 7 && (bt226.2.2.1 == 1 && (bt226.2.2.2.1 == 20)))) = true then (if bt226.2.2.2.2 = 0 then (if (bt232.1 == (-1) && (bt232.2.1 == 5 && (bt232.2.2.1 == 6 && (bt232.2.2.2.1 == 1)))) = true then (if bt232.2.2.2.2 = 0 then ((sample_Distance.f bt226.1 bt226.2.1 bt226.2.2.1 bt226.2.2.2.1).bind fun t238 => (if t238 = 5 then ((sample_Bounds.f bt226.1 bt226.2.1 bt226.2.2.1 bt226.2.2.2.1).bind fun bt239 => (timesynclaw21_awake.j0 k (bt239.1 == 8 && (bt239.2 == 18)))) else (timesynclaw21_awake.j0 k false))) else (timesynclaw21_awake.j0 k false)) else (timesynclaw21_awake.j0 k false)) else (timesynclaw21_awake.j0 k false)) else (timesynclaw21_awake.j0 k false)))
theorem timesynclaw21_awake.mono_l : ∀ k, (∀ y0, LeO (timesynclaw21_awake.j0 k y0) (timesynclaw21_awake.j0 (k + 1) y0))
  | 0 => fun _ r h => by simp [timesynclaw21_awake.j0] at h
  | k + 1 => by
    have ih0 := timesynclaw21_awake.mono_l k
    · intro y0
      unfold timesynclaw21_awake.j0
      repeat' first
      | (with_reducible exact ih0 _)
      | (with_reducible exact sample_Of.mono _ _ _ _ _ _ _)
      | (with_reducible exact LeO.refl _)
      | (with_reducible exact LeO.none _)
      | (with_reducible refine LeO.ite ?_ ?_)
      | (with_reducible refine LeO.bind ?_ (fun _ => ?_))
      | exact ih0 _
      | exact sample_Of.mono _ _ _ _ _ _ _
      | exact LeO.none _
      | refine LeO.ite ?_ ?_
      | refine LeO.bind ?_ (fun _ => ?_)
theorem timesynclaw21_awake.mono : ∀ k, LeO (timesynclaw21_awake.f k ) (timesynclaw21_awake.f (k + 1) ) := by
  intro  k
  have ih0 := timesynclaw21_awake.mono_l k
  unfold timesynclaw21_awake.f
  repeat' first
      | (with_reducible exact ih0 _)
      | (with_reducible exact sample_Of.mono _ _ _ _ _ _ _)
      | (with_reducible exact LeO.refl _)
      | (with_reducible exact LeO.none _)
      | (with_reducible refine LeO.ite ?_ ?_)
      | (with_reducible refine LeO.bind ?_ (fun _ => ?_))
      | exact ih0 _
      | exact sample_Of.mono _ _ _ _ _ _ _
      | exact LeO.none _
      | refine LeO.ite ?_ ?_
      | refine LeO.bind ?_ (fun _ => ?_)
set_option maxHeartbeats 8000000 in
set_option maxRecDepth 100000 in
theorem timesynclaw21_awake.calls (k : Nat)  (r : Bool) (w : World) (h : timesynclaw21_awake.f k  = some r) :
    Calls Try.prog 12 #[] w fun e w' => e = .returned (.bool r) ∧ Below w.heap.size w w' := by
  have hu23 := Try.underlying23
  have hu25 := Try.underlying25
  have hu34 := Try.underlying34
  have HB := Aside0.mk (Below.refl w.heap.size w)
  have H : ((sample_Of.f k 10 27 30 20 1 0).bind fun bt226 => ((sample_Of.f k 0 0 0 1 5 500000).bind fun bt232 => (if (bt226.1 == 13 && (bt226.2.1 == 7 && (bt226.2.2.1 == 1 && (bt226.2.2.2.1 == 20)))) = true then (if bt226.2.2.2.2 = 0 then (if (bt232.1 == (-1) && (bt232.2.1 == 5 && (bt232.2.2.1 == 6 && (bt232.2.2.2.1 == 1)))) = true then (if bt232.2.2.2.2 = 0 then ((sample_Distance.f bt226.1 bt226.2.1 bt226.2.2.1 bt226.2.2.2.1).bind fun t238 => (if t238 = 5 then ((sample_Bounds.f bt226.1 bt226.2.1 bt226.2.2.1 bt226.2.2.2.1).bind fun bt239 => (timesynclaw21_awake.j0 k (bt239.1 == 8 && (bt239.2 == 18)))) else (timesynclaw21_awake.j0 k false))) else (timesynclaw21_awake.j0 k false)) else (timesynclaw21_awake.j0 k false)) else (timesynclaw21_awake.j0 k false)) else (timesynclaw21_awake.j0 k false)))) = some r := h
  clear h
  replace H := Option.bind_eq_some_iff.mp H
  obtain ⟨⟨t226, t227, t228, t229, t230⟩, A10, H⟩ := H
  replace H : ((sample_Of.f k 0 0 0 1 5 500000).bind fun bt232 => (if (t226 == 13 && (t227 == 7 && (t228 == 1 && (t229 == 20)))) = true then (if t230 = 0 then (if (bt232.1 == (-1) && (bt232.2.1 == 5 && (bt232.2.2.1 == 6 && (bt232.2.2.2.1 == 1)))) = true then (if bt232.2.2.2.2 = 0 then ((sample_Distance.f t226 t227 t228 t229).bind fun t238 => (if t238 = 5 then ((sample_Bounds.f t226 t227 t228 t229).bind fun bt239 => (timesynclaw21_awake.j0 k (bt239.1 == 8 && (bt239.2 == 18)))) else (timesynclaw21_awake.j0 k false))) else (timesynclaw21_awake.j0 k false)) else (timesynclaw21_awake.j0 k false)) else (timesynclaw21_awake.j0 k false)) else (timesynclaw21_awake.j0 k false))) = some r := H
  have A1 := Aside0.mk A10
  clear A10
  replace H := Option.bind_eq_some_iff.mp H
  obtain ⟨⟨t232, t233, t234, t235, t236⟩, A20, H⟩ := H
  replace H : (if (t226 == 13 && (t227 == 7 && (t228 == 1 && (t229 == 20)))) = true then (if t230 = 0 then (if (t232 == (-1) && (t233 == 5 && (t234 == 6 && (t235 == 1)))) = true then (if t236 = 0 then ((sample_Distance.f t226 t227 t228 t229).bind fun t238 => (if t238 = 5 then ((sample_Bounds.f t226 t227 t228 t229).bind fun bt239 => (timesynclaw21_awake.j0 k (bt239.1 == 8 && (bt239.2 == 18)))) else (timesynclaw21_awake.j0 k false))) else (timesynclaw21_awake.j0 k false)) else (timesynclaw21_awake.j0 k false)) else (timesynclaw21_awake.j0 k false)) else (timesynclaw21_awake.j0 k false)) = some r := H
  have A2 := Aside0.mk A20
  clear A20
  have HC3 := Aside0.mk H
  clear H
  go_enter Try.func12, Try.ntmps12
  go_upto_region 3 with (first | ((with_reducible refine gate_callee (f := 10) rfl ?_); refine goesL_ (some 7) rfl rfl Try.func10 (by kernel_rfl) rfl #[.agg #[.int .i64 10, .int .i64 27, .int .i64 30, .int .i64 20], .int .i64 1, .int .i64 0] rfl sl_ ?_; (with_reducible refine (sample_Of.calls k 10 27 30 20 1 0 t226 t227 t228 t229 t230 _ A1.out).mono ?_); rintro e w4 ⟨rfl, hb⟩; refine ⟨_, rfl, ?_⟩; have n0_ := Aside0.mk (below_step hb_ hb); clear HB; have HB := n0_; clear n0_; (try clear hb); (try clear hb2); (try clear hk); (try clear hi)) | ((with_reducible refine gate_dst (N := 1) rfl ?_); refine box_event ?hg (N := 1) ?hd (cs := #[.int .i64 0, .int .i64 0, .int .i64 0, .int .i64 0]) (t := 25) ?hr ?_; (case hd => rfl); (case hg => rfl); (case hr => first | (go_simp; done) | (go_simp; rfl)); intro gb231 hg w5 hbox hb; have n0_ := Aside0.mk (below_step hb_ hb); have n1_ := Aside0.mk (hbox); have n2_ := Aside0.mk ((by rw [hg]; exact (below_size hb_) : w.heap.size ≤ gb231)); have n3_ := Aside0.mk ((by rw [hg]; exact (below_size hb_) : w.heap.size ≤ gb231)); clear HB; have HB := n0_; have BK231 := n1_; have GW231 := n2_; have GE231 := n3_; clear n0_ n1_ n2_ n3_; clear hb hbox hg; obtain ⟨hcz6_0, hcz6_1, hcz6_2, hcz6_3⟩ := cs4 BK231.out; obtain ⟨hfz6_0, hfz6_1, hfz6_2, hfz6_3⟩ := fs4 BK231.out) | ((with_reducible refine gate_callee (f := 10) rfl ?_); refine goesL_ (some 12) rfl rfl Try.func10 (by kernel_rfl) rfl #[.agg #[.int .i64 0, .int .i64 0, .int .i64 0, .int .i64 1], .int .i64 5, .int .i64 500000] rfl sl_ ?_; (with_reducible refine (sample_Of.calls k 0 0 0 1 5 500000 t232 t233 t234 t235 t236 _ A2.out).mono ?_); rintro e w7 ⟨rfl, hb⟩; refine ⟨_, rfl, ?_⟩; have n0_ := Aside0.mk (blk_below (g := gb231) (o := .cells #[.int .i64 t226, .int .i64 t227, .int .i64 t228, .int .i64 t229] 25 (0, 0)) (by (with_reducible repeat (first | refine blk_drewN ?_ _ | refine blk_drew ?_ | refine blk_alloc ?_ _)); refine blk_put (cs := #[.int .i64 t226, .int .i64 t227, .int .i64 t228, .int .i64 0]) ?_ 3 _ rfl; (with_reducible repeat (first | refine blk_drewN ?_ _ | refine blk_drew ?_ | refine blk_alloc ?_ _)); refine blk_put (cs := #[.int .i64 t226, .int .i64 t227, .int .i64 0, .int .i64 0]) ?_ 2 _ rfl; (with_reducible repeat (first | refine blk_drewN ?_ _ | refine blk_drew ?_ | refine blk_alloc ?_ _)); refine blk_put (cs := #[.int .i64 t226, .int .i64 0, .int .i64 0, .int .i64 0]) ?_ 1 _ rfl; (with_reducible repeat (first | refine blk_drewN ?_ _ | refine blk_drew ?_ | refine blk_alloc ?_ _)); refine blk_put (cs := #[.int .i64 0, .int .i64 0, .int .i64 0, .int .i64 0]) ?_ 0 _ rfl; (with_reducible repeat (first | refine blk_drewN ?_ _ | refine blk_drew ?_ | refine blk_alloc ?_ _)); exact BK231.out) hb); have n1_ := Aside0.mk (below_step hb_ hb); clear BK231; clear HB; have BK231 := n0_; have HB := n1_; clear n0_ n1_; (try clear hb); (try clear hb2); (try clear hk); (try clear hi)) | ((with_reducible refine gate_dst (N := 3) rfl ?_); refine box_event ?hg (N := 3) ?hd (cs := #[.int .i64 0, .int .i64 0, .int .i64 0, .int .i64 0]) (t := 25) ?hr ?_; (case hd => rfl); (case hg => rfl); (case hr => first | (go_simp; done) | (go_simp; rfl)); intro gb237 hg w8 hbox hb; have n0_ := Aside0.mk (bb BK231.out hb); have n1_ := Aside0.mk (below_step hb_ hb); have n2_ := Aside0.mk (hbox); have n3_ := Aside0.mk ((by rw [hg]; exact (below_size hb_) : w.heap.size ≤ gb237)); have n4_ := Aside0.mk ((by rw [hg]; exact (below_size hb_) : w.heap.size ≤ gb237)); have n5_ := Aside0.mk ((by rw [hg]; exact Nat.ne_of_lt (bl BK231.out) : gb231 ≠ gb237)); have n6_ := Aside0.mk ((by rw [hg]; exact Nat.ne_of_gt (bl BK231.out) : gb237 ≠ gb231)); clear BK231; clear HB; have BK231 := n0_; have HB := n1_; have BK237 := n2_; have GW237 := n3_; have GE237 := n4_; have NB231_237 := n5_; have NB237_231 := n6_; clear n0_ n1_ n2_ n3_ n4_ n5_ n6_; clear hb hbox hg; have hnb9 := NB237_231.out; have hnc9 := NB231_237.out; obtain ⟨hcz10_0, hcz10_1, hcz10_2, hcz10_3⟩ := cs4 BK237.out; obtain ⟨hfz10_0, hfz10_1, hfz10_2, hfz10_3⟩ := fs4 BK237.out))
  (try simp only [Act.put, z1, z2, z3])
  go_cut [0] (fun v0 wc => ∃ (kq : Nat) (x0_2 : Bool), v0 = .bool x0_2 ∧ Aside0 (timesynclaw21_awake.j0 kq x0_2 = some r) ∧ Aside0 (kq ≤ k) ∧ Aside0 (wc.heap[gb231]? = some (.cells #[.int .i64 t226, .int .i64 t227, .int .i64 t228, .int .i64 t229] 25 (0, 0))) ∧ Aside0 (wc.heap[gb237]? = some (.cells #[.int .i64 t232, .int .i64 t233, .int .i64 t234, .int .i64 t235] 25 (0, 0))) ∧ Aside0 (Below w.heap.size w wc))
  case first =>
    have H := HC3.out
    clear HC3
    by_cases c11 : (t226 == 13 && (t227 == 7 && (t228 == 1 && (t229 == 20)))) = true
    · rw [if_pos c11] at H
      have c11b0 : (t226 == 13 && (t227 == 7 && (t228 == 1 && (t229 == 20)))) = true := c11
      (try (have c11b1 : decide (t226 = 13 && (t227 == 7 && (t228 == 1 && (t229 == 20)))) = true := by simpa using c11))
      (try (have c11b2 : (t226 == 13 && (t227 == 7 && (t228 == 1 && (t229 == 20)))) = true := by simpa using c11))
      clear c11
      (first | rw [c11b0] | (simp only [i64_w, i32_w]; rw [c11b0]) | skip)
      by_cases c12 : t230 = 0
      · rw [if_pos c12] at H
        have c12b0 : (t230 == 0) = true := beq_iff_eq.mpr c12
        have c12b1 : (t230 != 0) = false := bne_eq_false_iff_eq.mpr c12
        clear c12
        by_cases c13 : (t232 == (-1) && (t233 == 5 && (t234 == 6 && (t235 == 1)))) = true
        · rw [if_pos c13] at H
          have c13b0 : (t232 == (-1) && (t233 == 5 && (t234 == 6 && (t235 == 1)))) = true := c13
          (try (have c13b1 : decide (t232 = (-1) && (t233 == 5 && (t234 == 6 && (t235 == 1)))) = true := by simpa using c13))
          (try (have c13b2 : (t232 == (-1) && (t233 == 5 && (t234 == 6 && (t235 == 1)))) = true := by simpa using c13))
          clear c13
          by_cases c14 : t236 = 0
          · rw [if_pos c14] at H
            have c14b0 : (t236 == 0) = true := beq_iff_eq.mpr c14
            have c14b1 : (t236 != 0) = false := bne_eq_false_iff_eq.mpr c14
            clear c14
            replace H := Option.bind_eq_some_iff.mp H
            obtain ⟨t238, A150, H⟩ := H
            replace H : (if t238 = 5 then ((sample_Bounds.f t226 t227 t228 t229).bind fun bt239 => (timesynclaw21_awake.j0 k (bt239.1 == 8 && (bt239.2 == 18)))) else (timesynclaw21_awake.j0 k false)) = some r := H
            have A15 := Aside0.mk A150
            clear A150
            by_cases c16 : t238 = 5
            · rw [if_pos c16] at H
              have c16b0 : (t238 == 5) = true := beq_iff_eq.mpr c16
              have c16b1 : (t238 != 5) = false := bne_eq_false_iff_eq.mpr c16
              clear c16
              replace H := Option.bind_eq_some_iff.mp H
              obtain ⟨⟨t239, t240⟩, A170, H⟩ := H
              replace H : (timesynclaw21_awake.j0 k (t239 == 8 && (t240 == 18))) = some r := H
              have A17 := Aside0.mk A170
              clear A170
              have H' := Aside0.mk H
              clear H
              have hnb18 := NB231_237.out
              have hnc18 := NB237_231.out
              obtain ⟨hcz19_0, hcz19_1, hcz19_2, hcz19_3⟩ := cs4 BK231.out
              obtain ⟨hfz19_0, hfz19_1, hfz19_2, hfz19_3⟩ := fs4 BK231.out
              obtain ⟨hcz20_0, hcz20_1, hcz20_2, hcz20_3⟩ := cs4 BK237.out
              obtain ⟨hfz20_0, hfz20_1, hfz20_2, hfz20_3⟩ := fs4 BK237.out
              go_wp2_with (first | (go_at_call 15; (with_reducible refine (sample_Distance.calls t226 t227 t228 t229 t238 _ A15.out).mono ?_); rintro e w21 ⟨rfl, hb⟩; have n0_ := Aside0.mk (blk_below (g := gb231) (o := .cells #[.int .i64 t226, .int .i64 t227, .int .i64 t228, .int .i64 t229] 25 (0, 0)) (bf BK231.out NB231_237.out) hb); have n1_ := Aside0.mk (blk_below (g := gb237) (o := .cells #[.int .i64 t232, .int .i64 t233, .int .i64 t234, .int .i64 t235] 25 (0, 0)) (by (with_reducible repeat (first | refine blk_drewN ?_ _ | refine blk_drew ?_ | refine blk_alloc ?_ _)); refine blk_put (cs := #[.int .i64 t232, .int .i64 t233, .int .i64 t234, .int .i64 0]) ?_ 3 _ rfl; (with_reducible repeat (first | refine blk_drewN ?_ _ | refine blk_drew ?_ | refine blk_alloc ?_ _)); refine blk_put (cs := #[.int .i64 t232, .int .i64 t233, .int .i64 0, .int .i64 0]) ?_ 2 _ rfl; (with_reducible repeat (first | refine blk_drewN ?_ _ | refine blk_drew ?_ | refine blk_alloc ?_ _)); refine blk_put (cs := #[.int .i64 t232, .int .i64 0, .int .i64 0, .int .i64 0]) ?_ 1 _ rfl; (with_reducible repeat (first | refine blk_drewN ?_ _ | refine blk_drew ?_ | refine blk_alloc ?_ _)); refine blk_put (cs := #[.int .i64 0, .int .i64 0, .int .i64 0, .int .i64 0]) ?_ 0 _ rfl; (with_reducible repeat (first | refine blk_drewN ?_ _ | refine blk_drew ?_ | refine blk_alloc ?_ _)); exact BK237.out) hb); have n2_ := Aside0.mk (below_step hb_ hb); clear BK231; clear BK237; clear HB; have BK231 := n0_; have BK237 := n1_; have HB := n2_; clear n0_ n1_ n2_; (try clear hb); (try clear hb2); (try clear hk); (try clear hi); obtain ⟨hcz22_0, hcz22_1, hcz22_2, hcz22_3⟩ := cs4 BK231.out; obtain ⟨hfz22_0, hfz22_1, hfz22_2, hfz22_3⟩ := fs4 BK231.out) | (go_at_call 17; (with_reducible refine (sample_Bounds.calls t226 t227 t228 t229 t239 t240 _ A17.out).mono ?_); rintro e w23 ⟨rfl, hb⟩; have n0_ := Aside0.mk (bb BK231.out hb); have n1_ := Aside0.mk (bb BK237.out hb); have n2_ := Aside0.mk (below_step hb_ hb); clear BK231; clear BK237; clear HB; have BK231 := n0_; have BK237 := n1_; have HB := n2_; clear n0_ n1_ n2_; (try clear hb); (try clear hb2); (try clear hk); (try clear hi)))
              go_meet
              case rel => exact ⟨_, ((t239 == 8 && (t240 == 18))), (by first | rfl | (simp; done) | (simp [*]; done)), H', ⟨by first | omega | exact Nat.le_refl _⟩, ⟨bp BK231.out⟩, ⟨bp BK237.out⟩, ⟨hb_⟩⟩
            · rw [if_neg c16] at H
              have c16b0 : (t238 == 5) = false := beq_eq_false_iff_ne.mpr c16
              have c16b1 : (t238 != 5) = true := bne_iff_ne.mpr c16
              have H' := Aside0.mk H
              clear H
              have hnb24 := NB231_237.out
              have hnc24 := NB237_231.out
              obtain ⟨hcz25_0, hcz25_1, hcz25_2, hcz25_3⟩ := cs4 BK231.out
              obtain ⟨hfz25_0, hfz25_1, hfz25_2, hfz25_3⟩ := fs4 BK231.out
              obtain ⟨hcz26_0, hcz26_1, hcz26_2, hcz26_3⟩ := cs4 BK237.out
              obtain ⟨hfz26_0, hfz26_1, hfz26_2, hfz26_3⟩ := fs4 BK237.out
              go_wp2_with (first | (go_at_call 15; (with_reducible refine (sample_Distance.calls t226 t227 t228 t229 t238 _ A15.out).mono ?_); rintro e w27 ⟨rfl, hb⟩; have n0_ := Aside0.mk (blk_below (g := gb231) (o := .cells #[.int .i64 t226, .int .i64 t227, .int .i64 t228, .int .i64 t229] 25 (0, 0)) (bf BK231.out NB231_237.out) hb); have n1_ := Aside0.mk (blk_below (g := gb237) (o := .cells #[.int .i64 t232, .int .i64 t233, .int .i64 t234, .int .i64 t235] 25 (0, 0)) (by (with_reducible repeat (first | refine blk_drewN ?_ _ | refine blk_drew ?_ | refine blk_alloc ?_ _)); refine blk_put (cs := #[.int .i64 t232, .int .i64 t233, .int .i64 t234, .int .i64 0]) ?_ 3 _ rfl; (with_reducible repeat (first | refine blk_drewN ?_ _ | refine blk_drew ?_ | refine blk_alloc ?_ _)); refine blk_put (cs := #[.int .i64 t232, .int .i64 t233, .int .i64 0, .int .i64 0]) ?_ 2 _ rfl; (with_reducible repeat (first | refine blk_drewN ?_ _ | refine blk_drew ?_ | refine blk_alloc ?_ _)); refine blk_put (cs := #[.int .i64 t232, .int .i64 0, .int .i64 0, .int .i64 0]) ?_ 1 _ rfl; (with_reducible repeat (first | refine blk_drewN ?_ _ | refine blk_drew ?_ | refine blk_alloc ?_ _)); refine blk_put (cs := #[.int .i64 0, .int .i64 0, .int .i64 0, .int .i64 0]) ?_ 0 _ rfl; (with_reducible repeat (first | refine blk_drewN ?_ _ | refine blk_drew ?_ | refine blk_alloc ?_ _)); exact BK237.out) hb); have n2_ := Aside0.mk (below_step hb_ hb); clear BK231; clear BK237; clear HB; have BK231 := n0_; have BK237 := n1_; have HB := n2_; clear n0_ n1_ n2_; (try clear hb); (try clear hb2); (try clear hk); (try clear hi)))
              go_meet
              case rel => exact ⟨_, (false), (by first | rfl | (simp; done) | (simp [*]; done)), H', ⟨by first | omega | exact Nat.le_refl _⟩, ⟨bp BK231.out⟩, ⟨bp BK237.out⟩, ⟨hb_⟩⟩
          · rw [if_neg c14] at H
            have c14b0 : (t236 == 0) = false := beq_eq_false_iff_ne.mpr c14
            have c14b1 : (t236 != 0) = true := bne_iff_ne.mpr c14
            have H' := Aside0.mk H
            clear H
            have hnb28 := NB231_237.out
            have hnc28 := NB237_231.out
            obtain ⟨hcz29_0, hcz29_1, hcz29_2, hcz29_3⟩ := cs4 BK231.out
            obtain ⟨hfz29_0, hfz29_1, hfz29_2, hfz29_3⟩ := fs4 BK231.out
            obtain ⟨hcz30_0, hcz30_1, hcz30_2, hcz30_3⟩ := cs4 BK237.out
            obtain ⟨hfz30_0, hfz30_1, hfz30_2, hfz30_3⟩ := fs4 BK237.out
            go_wp2
            go_meet
            case rel => exact ⟨_, (false), (by first | rfl | (simp; done) | (simp [*]; done)), H', ⟨by first | omega | exact Nat.le_refl _⟩, ⟨bf BK231.out NB231_237.out⟩, ⟨by (with_reducible repeat (first | refine blk_drewN ?_ _ | refine blk_drew ?_ | refine blk_alloc ?_ _)); refine blk_put (cs := #[.int .i64 t232, .int .i64 t233, .int .i64 t234, .int .i64 0]) ?_ 3 _ rfl; (with_reducible repeat (first | refine blk_drewN ?_ _ | refine blk_drew ?_ | refine blk_alloc ?_ _)); refine blk_put (cs := #[.int .i64 t232, .int .i64 t233, .int .i64 0, .int .i64 0]) ?_ 2 _ rfl; (with_reducible repeat (first | refine blk_drewN ?_ _ | refine blk_drew ?_ | refine blk_alloc ?_ _)); refine blk_put (cs := #[.int .i64 t232, .int .i64 0, .int .i64 0, .int .i64 0]) ?_ 1 _ rfl; (with_reducible repeat (first | refine blk_drewN ?_ _ | refine blk_drew ?_ | refine blk_alloc ?_ _)); refine blk_put (cs := #[.int .i64 0, .int .i64 0, .int .i64 0, .int .i64 0]) ?_ 0 _ rfl; (with_reducible repeat (first | refine blk_drewN ?_ _ | refine blk_drew ?_ | refine blk_alloc ?_ _)); exact BK237.out⟩, ⟨hb_⟩⟩
        · rw [if_neg c13] at H
          have c13b0 : (t232 == (-1) && (t233 == 5 && (t234 == 6 && (t235 == 1)))) = false := by simpa using c13
          (try (have c13b1 : decide (t232 = (-1) && (t233 == 5 && (t234 == 6 && (t235 == 1)))) = false := by simpa using c13))
          (try (have c13b2 : (t232 == (-1) && (t233 == 5 && (t234 == 6 && (t235 == 1)))) = false := by simpa using c13))
          (try (have c13b3 : ¬ (t232 = (-1) && (t233 == 5 && (t234 == 6 && (t235 == 1)))) := by simpa using c13))
          clear c13
          have H' := Aside0.mk H
          clear H
          have hnb31 := NB231_237.out
          have hnc31 := NB237_231.out
          obtain ⟨hcz32_0, hcz32_1, hcz32_2, hcz32_3⟩ := cs4 BK231.out
          obtain ⟨hfz32_0, hfz32_1, hfz32_2, hfz32_3⟩ := fs4 BK231.out
          obtain ⟨hcz33_0, hcz33_1, hcz33_2, hcz33_3⟩ := cs4 BK237.out
          obtain ⟨hfz33_0, hfz33_1, hfz33_2, hfz33_3⟩ := fs4 BK237.out
          go_wp2
          go_meet
          case rel => exact ⟨_, (false), (by first | rfl | (simp; done) | (simp [*]; done)), H', ⟨by first | omega | exact Nat.le_refl _⟩, ⟨bf BK231.out NB231_237.out⟩, ⟨by (with_reducible repeat (first | refine blk_drewN ?_ _ | refine blk_drew ?_ | refine blk_alloc ?_ _)); refine blk_put (cs := #[.int .i64 t232, .int .i64 t233, .int .i64 t234, .int .i64 0]) ?_ 3 _ rfl; (with_reducible repeat (first | refine blk_drewN ?_ _ | refine blk_drew ?_ | refine blk_alloc ?_ _)); refine blk_put (cs := #[.int .i64 t232, .int .i64 t233, .int .i64 0, .int .i64 0]) ?_ 2 _ rfl; (with_reducible repeat (first | refine blk_drewN ?_ _ | refine blk_drew ?_ | refine blk_alloc ?_ _)); refine blk_put (cs := #[.int .i64 t232, .int .i64 0, .int .i64 0, .int .i64 0]) ?_ 1 _ rfl; (with_reducible repeat (first | refine blk_drewN ?_ _ | refine blk_drew ?_ | refine blk_alloc ?_ _)); refine blk_put (cs := #[.int .i64 0, .int .i64 0, .int .i64 0, .int .i64 0]) ?_ 0 _ rfl; (with_reducible repeat (first | refine blk_drewN ?_ _ | refine blk_drew ?_ | refine blk_alloc ?_ _)); exact BK237.out⟩, ⟨hb_⟩⟩
      · rw [if_neg c12] at H
        have c12b0 : (t230 == 0) = false := beq_eq_false_iff_ne.mpr c12
        have c12b1 : (t230 != 0) = true := bne_iff_ne.mpr c12
        have H' := Aside0.mk H
        clear H
        have hnb34 := NB231_237.out
        have hnc34 := NB237_231.out
        obtain ⟨hcz35_0, hcz35_1, hcz35_2, hcz35_3⟩ := cs4 BK231.out
        obtain ⟨hfz35_0, hfz35_1, hfz35_2, hfz35_3⟩ := fs4 BK231.out
        go_wp2
        go_meet
        case rel => exact ⟨_, (false), (by first | rfl | (simp; done) | (simp [*]; done)), H', ⟨by first | omega | exact Nat.le_refl _⟩, ⟨bf BK231.out NB231_237.out⟩, ⟨by (with_reducible repeat (first | refine blk_drewN ?_ _ | refine blk_drew ?_ | refine blk_alloc ?_ _)); refine blk_put (cs := #[.int .i64 t232, .int .i64 t233, .int .i64 t234, .int .i64 0]) ?_ 3 _ rfl; (with_reducible repeat (first | refine blk_drewN ?_ _ | refine blk_drew ?_ | refine blk_alloc ?_ _)); refine blk_put (cs := #[.int .i64 t232, .int .i64 t233, .int .i64 0, .int .i64 0]) ?_ 2 _ rfl; (with_reducible repeat (first | refine blk_drewN ?_ _ | refine blk_drew ?_ | refine blk_alloc ?_ _)); refine blk_put (cs := #[.int .i64 t232, .int .i64 0, .int .i64 0, .int .i64 0]) ?_ 1 _ rfl; (with_reducible repeat (first | refine blk_drewN ?_ _ | refine blk_drew ?_ | refine blk_alloc ?_ _)); refine blk_put (cs := #[.int .i64 0, .int .i64 0, .int .i64 0, .int .i64 0]) ?_ 0 _ rfl; (with_reducible repeat (first | refine blk_drewN ?_ _ | refine blk_drew ?_ | refine blk_alloc ?_ _)); exact BK237.out⟩, ⟨hb_⟩⟩
    · rw [if_neg c11] at H
      have c11b0 : (t226 == 13 && (t227 == 7 && (t228 == 1 && (t229 == 20)))) = false := by simpa using c11
      (try (have c11b1 : decide (t226 = 13 && (t227 == 7 && (t228 == 1 && (t229 == 20)))) = false := by simpa using c11))
      (try (have c11b2 : (t226 == 13 && (t227 == 7 && (t228 == 1 && (t229 == 20)))) = false := by simpa using c11))
      (try (have c11b3 : ¬ (t226 = 13 && (t227 == 7 && (t228 == 1 && (t229 == 20)))) := by simpa using c11))
      clear c11
      (first | rw [c11b0] | (simp only [i64_w, i32_w]; rw [c11b0]) | skip)
      have H' := Aside0.mk H
      clear H
      have hnb36 := NB231_237.out
      have hnc36 := NB237_231.out
      obtain ⟨hcz37_0, hcz37_1, hcz37_2, hcz37_3⟩ := cs4 BK231.out
      obtain ⟨hfz37_0, hfz37_1, hfz37_2, hfz37_3⟩ := fs4 BK231.out
      go_wp2
      go_meet
      case rel => exact ⟨_, (false), (by first | rfl | (simp; done) | (simp [*]; done)), H', ⟨by first | omega | exact Nat.le_refl _⟩, ⟨bf BK231.out NB231_237.out⟩, ⟨by (with_reducible repeat (first | refine blk_drewN ?_ _ | refine blk_drew ?_ | refine blk_alloc ?_ _)); refine blk_put (cs := #[.int .i64 t232, .int .i64 t233, .int .i64 t234, .int .i64 0]) ?_ 3 _ rfl; (with_reducible repeat (first | refine blk_drewN ?_ _ | refine blk_drew ?_ | refine blk_alloc ?_ _)); refine blk_put (cs := #[.int .i64 t232, .int .i64 t233, .int .i64 0, .int .i64 0]) ?_ 2 _ rfl; (with_reducible repeat (first | refine blk_drewN ?_ _ | refine blk_drew ?_ | refine blk_alloc ?_ _)); refine blk_put (cs := #[.int .i64 t232, .int .i64 0, .int .i64 0, .int .i64 0]) ?_ 1 _ rfl; (with_reducible repeat (first | refine blk_drewN ?_ _ | refine blk_drew ?_ | refine blk_alloc ?_ _)); refine blk_put (cs := #[.int .i64 0, .int .i64 0, .int .i64 0, .int .i64 0]) ?_ 0 _ rfl; (with_reducible repeat (first | refine blk_drewN ?_ _ | refine blk_drew ?_ | refine blk_alloc ?_ _)); exact BK237.out⟩, ⟨hb_⟩⟩
  case rest =>
    clear HC3
    try clear c1
    try clear c2
    try clear p2
    try clear c3
    try clear c9
    try clear c10
    try clear c11
    try clear c11b0
    try clear c11b1
    try clear c11b2
    try clear c12
    try clear c12b0
    try clear c12b1
    try clear c13
    try clear c13b0
    try clear c13b1
    try clear c13b2
    try clear c14
    try clear c14b0
    try clear c14b1
    try clear c16
    try clear c16b0
    try clear c16b1
    try clear c18
    try clear c24
    try clear c28
    try clear c31
    try clear c34
    try clear c36
    try clear hcz10_0
    try clear hcz10_1
    try clear hcz10_2
    try clear hcz10_3
    try clear hcz19_0
    try clear hcz19_1
    try clear hcz19_2
    try clear hcz19_3
    try clear hcz20_0
    try clear hcz20_1
    try clear hcz20_2
    try clear hcz20_3
    try clear hcz22_0
    try clear hcz22_1
    try clear hcz22_2
    try clear hcz22_3
    try clear hcz25_0
    try clear hcz25_1
    try clear hcz25_2
    try clear hcz25_3
    try clear hcz26_0
    try clear hcz26_1
    try clear hcz26_2
    try clear hcz26_3
    try clear hcz29_0
    try clear hcz29_1
    try clear hcz29_2
    try clear hcz29_3
    try clear hcz30_0
    try clear hcz30_1
    try clear hcz30_2
    try clear hcz30_3
    try clear hcz32_0
    try clear hcz32_1
    try clear hcz32_2
    try clear hcz32_3
    try clear hcz33_0
    try clear hcz33_1
    try clear hcz33_2
    try clear hcz33_3
    try clear hcz35_0
    try clear hcz35_1
    try clear hcz35_2
    try clear hcz35_3
    try clear hcz37_0
    try clear hcz37_1
    try clear hcz37_2
    try clear hcz37_3
    try clear hcz6_0
    try clear hcz6_1
    try clear hcz6_2
    try clear hcz6_3
    try clear hfz10_0
    try clear hfz10_1
    try clear hfz10_2
    try clear hfz10_3
    try clear hfz19_0
    try clear hfz19_1
    try clear hfz19_2
    try clear hfz19_3
    try clear hfz20_0
    try clear hfz20_1
    try clear hfz20_2
    try clear hfz20_3
    try clear hfz22_0
    try clear hfz22_1
    try clear hfz22_2
    try clear hfz22_3
    try clear hfz25_0
    try clear hfz25_1
    try clear hfz25_2
    try clear hfz25_3
    try clear hfz26_0
    try clear hfz26_1
    try clear hfz26_2
    try clear hfz26_3
    try clear hfz29_0
    try clear hfz29_1
    try clear hfz29_2
    try clear hfz29_3
    try clear hfz30_0
    try clear hfz30_1
    try clear hfz30_2
    try clear hfz30_3
    try clear hfz32_0
    try clear hfz32_1
    try clear hfz32_2
    try clear hfz32_3
    try clear hfz33_0
    try clear hfz33_1
    try clear hfz33_2
    try clear hfz33_3
    try clear hfz35_0
    try clear hfz35_1
    try clear hfz35_2
    try clear hfz35_3
    try clear hfz37_0
    try clear hfz37_1
    try clear hfz37_2
    try clear hfz37_3
    try clear hfz6_0
    try clear hfz6_1
    try clear hfz6_2
    try clear hfz6_3
    obtain ⟨kq, x0_2, rfl, HA, HJ2, BK231, BK237, HB⟩ := hcut
    cases kq with
    | zero => exact absurd HA.out (by simp [timesynclaw21_awake.j0])
    | succ kj2 =>
      have H := HA.out
      clear HA
      simp only [timesynclaw21_awake.j0] at H
      obtain rfl := Option.some.inj H
      go_wp2
      go_ret
      exact ⟨by first | rfl | (simp [errW_none, errW_some] <;> rfl) | (simp [*, errW_none, errW_some] <;> rfl), hb_⟩

end Go.Proofs.Ytkldnopfgcenhaa.PAll
