/- The chapter's examples: awake. -/
import Derived.Test.YtkbbjgjbfdpciaaFx
import Derived.Test.YtkbbjgjbfdpciaaFp
namespace Go.Proofs.Ytkbbjgjbfdpciaa.Fi
open Go Go.RowKit Go.Proofs.YtkbbjgjbfdpciaaW.PrintWords Go.Proofs.YtkbbjgjbfdpciaaW.PrintLast Go.Proofs.YtkbbjgjbfdpciaaW.PrintMore Go.Proofs.Ytkbbjgjbfdpciaa.PAll Go.Proofs.Ytkbbjgjbfdpciaa.Pure
attribute [local go_sem] max2_int min2_int max_two min_two max_three min_three max_four min_four
set_option linter.unusedVariables false
set_option linter.unusedSimpArgs false

abbrev x1 : S29 := ⟨100, 50, 8, 10⟩
abbrev x2 : S29 := ⟨130, 40, 8, 20⟩
abbrev x3 : S29 := ⟨90, 60, 8, 30⟩
abbrev L3 : List S29 := [x1, x2, x3]
theorem add_to (b : Nat) (tol : Int) (l l' : List S29) (fresh : Int) (x : S29) (e0 : Int) (h1 : addE l x = e0) (h2 : addL l x = l') (w : World) (h : Fil w b tol l fresh) :
    Calls Try.prog 11 #[.pointer (some ⟨b, 0, none⟩), .agg #[.int .i64 x.f0, .int .i64 x.f1, .int .i64 x.f2, .int .i64 x.f3]] w fun e w' => e = .returned (.int .i64 e0) ∧ Fil w' b tol l' fresh ∧ Upd w w' b := by
  subst h1 h2
  exact add_any b tol l fresh x w h
theorem first3 : (sortS L3)[0]? = some x2 := by
  apply sort_first
  · simp [L3]
  · intro y hy
    simp only [L3, List.mem_cons, List.not_mem_nil, or_false] at hy
    rcases hy with rfl | rfl | rfl
    · right; left; decide
    · left; rfl
    · right; left; decide
theorem all3 (P : S29 → Prop) (h1 : P x1) (h2 : P x2) (h3 : P x3) : ∀ y ∈ L3, P y := by
  intro y hy
  simp only [L3, List.mem_cons, List.not_mem_nil, or_false] at hy
  rcases hy with rfl | rfl | rfl <;> assumption
theorem grow3 : ∀ y ∈ L3, growS y.f0 y.f1 y.f2 y.f3 30 0 = (y.f0, y.f1, 8, 30, 0) := all3 _ (by decide +kernel) (by decide +kernel) (by decide +kernel)
theorem dT3 (i : Nat) : dT 0 30 (sortS L3) i = if i < 3 then 8 else 16000000000 := by
  unfold dT
  rw [sort_len]
  by_cases h : i < 3
  · rw [if_pos h, if_pos (show i < L3.length from h), grow3 _ (sort_getD L3 i h)]
    rfl
  · rw [if_neg h, if_neg (show ¬ i < L3.length from h)]
theorem disp3 : dS 0 30 (sortS L3) 8 = 1937500007 := by
  simp only [dS, dT3]
  decide +kernel
theorem jit3 : jS x2.f0 (sortS L3) 3 = 2500 := by
  have h := (jitter_pure (l := L3) (x := x2) (by decide) (by decide) (all3 _ (by unfold inO; decide) (by unfold inO; decide) (by unfold inO; decide)) (by simp [L3])).1
  have h2 : sumS x2.f0 L3 = 2500 := by decide +kernel
  rw [h2] at h
  exact h
theorem root35 : fixed_Sqrt.f 33 (wrap64 (jS x2.f0 (sortS L3) L3.length / ((L3.length : Int) - 1))) = some (35, true) := by
  have e : L3.length = 3 := rfl
  rw [e, jit3]
  decide +kernel
theorem jit0 : 0 ≤ jS x2.f0 (sortS L3) L3.length := by
  have e : L3.length = 3 := rfl
  rw [e, jit3]
  decide

theorem spike_to (b : Nat) (tol : Int) (l : List S29) (fresh : Int) (x y : S29) (r : Int) (v : Bool) (hv : decide (IntKind.i64.wrap (3 * mx r 1) < mx (IntKind.i64.wrap (x.f0 - y.f0)) (IntKind.i64.wrap (y.f0 - x.f0))) = v) (w : World) (h : Fil w b tol l fresh) (h2 : 2 ≤ l.length) (hx : okS x) (hy : (sortS l)[0]? = some y)
    (hs0 : 0 ≤ jS y.f0 (sortS l) l.length) (hr : fixed_Sqrt.f 33 (wrap64 (jS y.f0 (sortS l) l.length / ((l.length : Int) - 1))) = some (r, true)) :
    Calls Try.prog 19 #[.pointer (some ⟨b, 0, none⟩), .agg #[.int .i64 x.f0, .int .i64 x.f1, .int .i64 x.f2, .int .i64 x.f3]] w fun e w' => e = .returned (.bool v) ∧ Below w.heap.size w w' := by
  subst hv
  exact spike_go b tol l fresh x y r w h h2 hx hy hs0 hr
set_option maxRecDepth 8000 in
set_option maxHeartbeats 4000000 in
theorem awake_any (w : World) : Calls Try.prog 9 #[] w fun e w' => e = .returned (.bool true) ∧ Below w.heap.size w w' := by
  have hN := Aside0.mk (fun W => new_ok 0 W (by decide) (by decide))
  have hN1 := Aside0.mk (fun W => new_no (-1) W (by decide))
  have hA1 := Aside0.mk (fun W h => add_to w.heap.size 0 [] [x1] (-9223372036854775808) x1 0 (by decide +kernel) (by kernel_rfl) W h)
  have hA2 := Aside0.mk (fun W h => add_to w.heap.size 0 [x1] [x1, x2] (-9223372036854775808) x2 0 (by decide +kernel) (by kernel_rfl) W h)
  have hA3 := Aside0.mk (fun W h => add_to w.heap.size 0 [x1, x2] L3 (-9223372036854775808) x3 0 (by decide +kernel) (by kernel_rfl) W h)
  have hA4 := Aside0.mk (fun W h => add_to w.heap.size 0 L3 L3 20 ⟨0, 10, 8, 30⟩ 12 (by decide +kernel) (by kernel_rfl) W h)
  have hB1 := Aside0.mk (fun W h => best_ok w.heap.size 0 L3 2 x3 x2 (-9223372036854775808) 30 130 40 8 30 W h rfl rfl (by decide) first3 (by decide +kernel))
  have hB2 := Aside0.mk (fun W h => best_ok w.heap.size 0 L3 2 x3 x2 20 30 130 40 8 30 W h rfl rfl (by decide) first3 (by decide +kernel))
  have hJ := Aside0.mk (fun W h => jitter_many w.heap.size 0 L3 20 x2 35 W h (by decide) first3 jit0 root35)
  have hD := Aside0.mk (fun W h => disp_go w.heap.size 0 L3 2 x3 20 30 W h rfl rfl (by decide))
  have hS1 := Aside0.mk (fun W h => spike_to w.heap.size 0 L3 20 ⟨235, 0, 0, 40⟩ x2 35 false (by decide +kernel) W h (by decide) (by decide +kernel) first3 jit0 root35)
  have hS2 := Aside0.mk (fun W h => spike_to w.heap.size 0 L3 20 ⟨236, 0, 0, 40⟩ x2 35 true (by decide +kernel) W h (by decide) (by decide +kernel) first3 jit0 root35)
  have hL := Aside0.mk (fun W h => len_any w.heap.size 0 L3 20 W h)
  go_enter Try.func9, Try.ntmps9
  go_wp2_with (first
    | (go_at_call 8
       with_reducible refine Calls.mono (hN.out _) ?_
       rintro e w1 ⟨rfl, F1, B1⟩)
    | (go_at_call 8
       with_reducible refine Calls.mono (hN1.out _) ?_
       rintro e w2 ⟨rfl, rfl⟩)
    | (go_at_call 11
       with_reducible refine Calls.mono (hA1.out _ F1) ?_
       rintro e w2 ⟨rfl, F2, U2⟩
       have B2 := U2.below B1 (Nat.le_refl _) B1.size)
    | (go_at_call 11
       with_reducible refine Calls.mono (hA2.out _ F2) ?_
       rintro e w3 ⟨rfl, F3, U3⟩
       have B3 := U3.below B2 (Nat.le_refl _) B2.size)
    | (go_at_call 11
       with_reducible refine Calls.mono (hA3.out _ F3) ?_
       rintro e w4 ⟨rfl, F4, U4⟩
       have B4 := U4.below B3 (Nat.le_refl _) B3.size)
    | (go_at_call 15
       with_reducible refine Calls.mono (hB1.out _ F4) ?_
       rintro e w5 ⟨rfl, F5, U5⟩
       replace F5 : Fil w5 w.heap.size 0 L3 20 := F5
       have F5' := F5.alloc (.cells #[.int .i64 130, .int .i64 40, .int .i64 8, .int .i64 30] 29)
       have B5 := U5.below B4 (Nat.le_refl _) B4.size
       have B5' := B5.alloc B5.size (.cells #[.int .i64 130, .int .i64 40, .int .i64 8, .int .i64 30] 29)
       have Z5 := blk_new w5 (.cells #[.int .i64 130, .int .i64 40, .int .i64 8, .int .i64 30] 29)
       have hn5 : w5.heap.size ≠ w.heap.size := Nat.ne_of_gt F5.lt)
    | (go_at_call 15
       with_reducible refine Calls.mono (hB2.out _ F5') ?_
       rintro e w6 ⟨rfl, F6, U6⟩
       replace F6 : Fil w6 w.heap.size 0 L3 20 := F6
       have F6' := F6.alloc (.cells #[.int .i64 130, .int .i64 40, .int .i64 8, .int .i64 30] 29)
       have B6 := U6.below B5' (Nat.le_refl _) B5'.size
       have B6' := B6.alloc B6.size (.cells #[.int .i64 130, .int .i64 40, .int .i64 8, .int .i64 30] 29)
       have Z6 := blk_alloc (U6.blk Z5 hn5) (.cells #[.int .i64 130, .int .i64 40, .int .i64 8, .int .i64 30] 29)
       obtain ⟨z0, z1, z2, z3⟩ := cs4 Z6)
    | (go_at_call 17
       with_reducible refine Calls.mono (hJ.out _ F6') ?_
       rintro e w7 ⟨rfl, b7⟩
       have F7 := F6'.below b7
       have B7 := B6'.trans (b7.mono B6'.size))
    | (go_at_call 18
       with_reducible refine Calls.mono (hD.out _ F7) ?_
       rintro e w8 ⟨rfl, b8⟩
       rw [disp3]
       have F8 := F7.below b8
       have B8 := B7.trans (b8.mono B7.size))
    | (go_at_call 19
       with_reducible refine Calls.mono (hS1.out _ F8) ?_
       rintro e w9 ⟨rfl, b9⟩
       have F9 := F8.below b9
       have B9 := B8.trans (b9.mono B8.size))
    | (go_at_call 19
       with_reducible refine Calls.mono (hS2.out _ F9) ?_
       rintro e w10 ⟨rfl, b10⟩
       have F10 := F9.below b10
       have B10 := B9.trans (b10.mono B9.size))
    | (go_at_call 11
       with_reducible refine Calls.mono (hA4.out _ F10) ?_
       rintro e w11 ⟨rfl, F11, U11⟩
       have B11 := U11.below B10 (Nat.le_refl _) B10.size)
    | (go_at_call 13
       with_reducible refine Calls.mono (hL.out _ F11) ?_
       rintro e w12 ⟨rfl, rfl⟩))
  all_goals (go_ret; exact ⟨rfl, B11⟩)
end Go.Proofs.Ytkbbjgjbfdpciaa.Fi
