/- The filter's Spike. -/
import Derived.Test.YtkbbjgjbfdpciaaFk
namespace Go.Proofs.Ytkbbjgjbfdpciaa.Fi
open Go Go.RowKit Go.Proofs.YtkbbjgjbfdpciaaW.PrintWords Go.Proofs.YtkbbjgjbfdpciaaW.PrintLast Go.Proofs.YtkbbjgjbfdpciaaW.PrintMore Go.Proofs.Ytkbbjgjbfdpciaa.PAll Go.Proofs.Ytkbbjgjbfdpciaa.Pure
set_option linter.unusedVariables false
set_option linter.unusedSimpArgs false

theorem max2_mx (k k' : IntKind) (x y : Int) : Builtin.max2 (.int k x) (.int k' y) = pure (.int k (mx x y)) := max2_int k k' x y
attribute [local go_sem] max2_mx max_two
theorem Fil.drew {w : World} {b : Nat} {tol : Int} {l : List S29} {fresh : Int} (h : Fil w b tol l fresh) : Fil w.drew b tol l fresh := h
set_option maxRecDepth 8000 in
set_option maxHeartbeats 4000000 in
theorem spike_go (b : Nat) (tol : Int) (l : List S29) (fresh : Int) (x y : S29) (r : Int) (w : World) (h : Fil w b tol l fresh) (h2 : 2 ≤ l.length) (hx : okS x) (hy : (sortS l)[0]? = some y)
    (hs0 : 0 ≤ jS y.f0 (sortS l) l.length) (hr : fixed_Sqrt.f 33 (wrap64 (jS y.f0 (sortS l) l.length / ((l.length : Int) - 1))) = some (r, true)) :
    Calls Try.prog 19 #[.pointer (some ⟨b, 0, none⟩), .agg #[.int .i64 x.f0, .int .i64 x.f1, .int .i64 x.f2, .int .i64 x.f3]] w fun e w' => e = .returned (.bool (decide (IntKind.i64.wrap (3 * mx r 1) < mx (IntKind.i64.wrap (x.f0 - y.f0)) (IntKind.i64.wrap (y.f0 - x.f0))))) ∧ Below w.heap.size w w' := by
  have hlt := h.lt
  have U := (Below.refl w.heap.size w).alloc (Nat.le_refl _) (.cells #[.int .i64 x.f0, .int .i64 x.f1, .int .i64 x.f2, .int .i64 x.f3] 29)
  have R := blk_new w (.cells #[.int .i64 x.f0, .int .i64 x.f1, .int .i64 x.f2, .int .i64 x.f3] 29)
  have H1 := h.alloc (.cells #[.int .i64 x.f0, .int .i64 x.f1, .int .i64 x.f2, .int .i64 x.f3] 29)
  obtain ⟨r0, r1, r2, r3⟩ := cs4 R
  obtain ⟨c0, c1, c2⟩ := H1.cells
  have hC := fun W => check_any x W
  simp only [if_pos hx] at hC
  replace hC := Aside0.mk hC
  have e1 : ¬ (l.length : Int) < 2 := by omega
  have e2 : decide (l.length < 2) = false := decide_eq_false (by omega)
  have e3 : ¬ l.length < 2 := by omega
  have hl0 : 0 < l.length := by omega
  have hJ := Aside0.mk (fun (W : World) (hW : Fil W b tol l fresh) => jitter_many b tol l fresh y r W hW h2 hy hs0 hr)
  replace H1 := Aside0.mk H1
  clear h hr hs0
  go_enter Try.func19, Try.ntmps19
  go_wp2_with (first
    | (go_at_call 10
       with_reducible refine Calls.mono (hC.out _) ?_
       rintro e w2 ⟨rfl, hb2⟩
       have R2 := blk_below R hb2
       have U2 := U.trans (hb2.mono U.size)
       have H2 := H1.out.below hb2)
    | (go_at_call 23
       with_reducible refine Calls.mono (ordered_any b tol l fresh _ H2) ?_
       rintro e w3 ⟨g, cap, rfl, hg3, hcap, hS, hlen, hb⟩
       have H3 := H2.below hb
       have R3 := blk_below R2 hb
       have U3 := U2.trans (hb.mono U2.size)
       obtain ⟨s0, s1, s2, s3⟩ := hS.get hy
       rw [Nat.zero_mul] at s0 s1 s2 s3
       clear s1 s2 s3))
  obtain ⟨q0, q1, q2, q3⟩ := cs4 R3
  replace U3 := Aside0.mk U3
  replace H3 := Aside0.mk H3
  go_region_held3 (fun w' => w'.cell? ⟨w.heap.size, 0, none⟩ = some (.int .i64 x.f0))
    (first | go_keep | exact (cs4 R4).1)
    (first
    | (go_at_call 17
       first | with_reducible refine Calls.mono (hJ.out _ (Fil.drew H3.out)) ?_ | with_reducible refine Calls.mono (hJ.out _ H3.out) ?_
       rintro e w4 ⟨rfl, hb4⟩
       have R4 : w4.heap[w.heap.size]? = some (.cells #[.int .i64 x.f0, .int .i64 x.f1, .int .i64 x.f2, .int .i64 x.f3] 29) := blk_below (by exact R3) hb4
       have U4 := below_on U3.out hb4 rfl rfl rfl rfl))
  all_goals go_wp2
  all_goals (go_ret; exact ⟨rfl, U4⟩)
end Go.Proofs.Ytkbbjgjbfdpciaa.Fi
