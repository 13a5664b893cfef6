/- The filter's Best, where a sample comes back. -/
import Derived.Test.YtkbbjgjbfdpciaaFm
namespace Go.Proofs.Ytkbbjgjbfdpciaa.Fi
open Go Go.RowKit Go.Proofs.YtkbbjgjbfdpciaaW.PrintWords Go.Proofs.YtkbbjgjbfdpciaaW.PrintLast Go.Proofs.YtkbbjgjbfdpciaaW.PrintMore Go.Proofs.Ytkbbjgjbfdpciaa.PAll Go.Proofs.Ytkbbjgjbfdpciaa.Pure
attribute [local go_sem] max2_int min2_int max_two min_two max_three min_three max_four min_four
set_option linter.unusedVariables false
set_option linter.unusedSimpArgs false

theorem FCells.setFresh {cs : Array Value} {tol : Int} {l : List S29} {fresh : Int} (h : FCells cs tol l fresh) (v : Int) : FCells (cs.setIfInBounds 34 (.int .i64 v)) tol l v := by
  have hs := h.size
  have hl := h.len
  have hi : ∀ i x, l[i]? = some x → i < 8 := fun i x hx => by have := (List.getElem?_eq_some_iff.1 hx).1; omega
  exact ⟨by simp [hs], one_set h.one _ _ rfl, (set_ne _ (by omega)).trans h.tol, (set_ne _ (by omega)).trans h.n, set_eq _ (by omega), h.len,
    fun i x hx => (set_ne _ (by have := hi i x hx; omega)).trans (h.at0 i x hx), fun i x hx => (set_ne _ (by have := hi i x hx; omega)).trans (h.at1 i x hx), fun i x hx => (set_ne _ (by have := hi i x hx; omega)).trans (h.at2 i x hx), fun i x hx => (set_ne _ (by have := hi i x hx; omega)).trans (h.at3 i x hx)⟩

set_option maxRecDepth 8000 in
set_option maxHeartbeats 4000000 in
theorem best_ok (b : Nat) (tol : Int) (l : List S29) (j : Nat) (y x : S29) (fresh now : Int) (r1 r2 r3 r4 : Int) (w : World) (h : Fil w b tol l fresh) (hj : l.length = j + 1) (hy : l[j]? = some y) (hn : y.f3 ≤ now) (hx : (sortS l)[0]? = some x)
    (hg : growS x.f0 x.f1 x.f2 x.f3 now tol = (r1, r2, r3, r4, 0)) :
    Calls Try.prog 15 #[.pointer (some ⟨b, 0, none⟩), .int .i64 now] w fun e w' => e = .returned (.tuple #[.agg #[.int .i64 r1, .int .i64 r2, .int .i64 r3, .int .i64 r4], .bool (decide (fresh < x.f3)), .int .i64 0]) ∧ Fil w' b tol l (if fresh < x.f3 then x.f3 else fresh) ∧ Upd w w' b := by
  have hlt := h.lt
  have R := blk_new w (.cells #[.int .i64 0, .int .i64 0, .int .i64 0, .int .i64 0] 29)
  have U := (Below.refl w.heap.size w).alloc (Nat.le_refl _) (.cells #[.int .i64 0, .int .i64 0, .int .i64 0, .int .i64 0] 29)
  have H1 := h.alloc (.cells #[.int .i64 0, .int .i64 0, .int .i64 0, .int .i64 0] 29)
  obtain ⟨c0, c1, c2⟩ := H1.cells
  have e1 : (l.length : Int) = (j : Int) + 1 := by omega
  rw [e1] at c1
  have hL := last_any b tol l j y fresh _ H1 hj hy
  replace hL := Aside0.mk hL
  have hz : ((j : Int) + 1 == 0) = false := beq_false_of_ne (by omega)
  have hnn : ¬ (now < y.f3) := by omega
  have hG := Aside0.mk (fun W => grow_to x now tol r1 r2 r3 r4 0 hg W)
  have hl0 : (0 : Int) < (l.length : Int) := by omega
  have hlen0 : 0 < l.length := by omega
  replace H1 := Aside0.mk H1
  replace hj := Aside0.mk hj
  clear h hg e1
  go_enter Try.func15, Try.ntmps15
  go_wp2_with (first
    | (go_at_call 21
       with_reducible refine Calls.mono hL.out ?_
       rintro e w2 ⟨rfl, ⟨nd, rfl⟩⟩
       have R2 := blk_drewN R nd
       have U2 := pw_below_drewN U nd
       have H2 := H1.out.drewN nd
       generalize (w.alloc (.cells #[.int .i64 0, .int .i64 0, .int .i64 0, .int .i64 0] 29)).drewN nd = w2 at *)
    | (go_at_call 23
       with_reducible refine Calls.mono (ordered_any b tol l fresh _ H2) ?_
       rintro e w3 ⟨g, cap, rfl, hg3, hcap, hS, hlen, hb⟩
       have H3 := H2.below hb
       have R3 := blk_below R2 hb
       have U3 := U2.trans (hb.mono U2.size)
       obtain ⟨s0, s1, s2, s3⟩ := hS.get hx
       rw [Nat.zero_mul] at s0 s1 s2 s3
       rw [Nat.zero_add] at s1 s2 s3))
  all_goals
    have B4 := blk_new w3 (.cells #[.int .i64 x.f0, .int .i64 x.f1, .int .i64 x.f2, .int .i64 x.f3] 29)
    have H4 := H3.alloc (.cells #[.int .i64 x.f0, .int .i64 x.f1, .int .i64 x.f2, .int .i64 x.f3] 29)
    have R4 := blk_alloc R3 (.cells #[.int .i64 x.f0, .int .i64 x.f1, .int .i64 x.f2, .int .i64 x.f3] 29)
    have U4 := U3.alloc U3.size (.cells #[.int .i64 x.f0, .int .i64 x.f1, .int .i64 x.f2, .int .i64 x.f3] 29)
    obtain ⟨q0, q1, q2, q3⟩ := cs4 B4
    obtain ⟨p0, p1, p2⟩ := H4.cells
    have hz4 : (w3.alloc (.cells #[.int .i64 x.f0, .int .i64 x.f1, .int .i64 x.f2, .int .i64 x.f3] 29)).heap.size = w3.heap.size + 1 := by rw [Go.Sort.alloc_eq_grow, Go.Sort.size_grow]; rfl
    replace hz4 := Aside0.mk hz4
    have hbn : b ≠ w3.heap.size + 1 := by have := U3.size; omega
    have hbn2 : w3.heap.size + 1 ≠ b := Ne.symm hbn
    have hnn1 := World.new_ne _ _ p0
    have hnn2 := World.new_ne _ _ q0
    clear s0 s1 s2 s3 hS
    replace U4 := Aside0.mk U4
    go_region_held3 (fun w' => w'.cell? ⟨w3.heap.size, 0, none⟩ = some (.int .i64 x.f0) ∧ w'.cell? ⟨w3.heap.size, 1, none⟩ = some (.int .i64 x.f1) ∧ w'.cell? ⟨w3.heap.size, 2, none⟩ = some (.int .i64 x.f2) ∧ w'.cell? ⟨w3.heap.size, 3, none⟩ = some (.int .i64 x.f3) ∧ w'.cell? ⟨b, 0, none⟩ = some (.int .i64 tol))
      (first | go_keep | exact keepA B5 H5 | exact keepB B5 H5 _ | exact keepC B5 H5 hbn (.int .i64 r1) (.int .i64 r2) (.int .i64 r3) (.int .i64 r4) | exact (keepC B5 H5 hbn (.int .i64 r1) (.int .i64 r2) (.int .i64 r3) (.int .i64 r4)).2.2.2.2)
      (first
      | (go_at_call 16
         with_reducible refine Calls.mono (hG.out _) ?_
         rintro e w5 ⟨rfl, hb5⟩
         have B5 : w5.heap[w3.heap.size]? = some (.cells #[.int .i64 x.f0, .int .i64 x.f1, .int .i64 x.f2, .int .i64 x.f3] 29) := blk_below (by first | exact B4 | exact blk_alloc B4 _) hb5
         have R5 : w5.heap[w.heap.size]? = some (.cells #[.int .i64 0, .int .i64 0, .int .i64 0, .int .i64 0] 29) := blk_below (by first | exact R4 | exact blk_alloc R4 _) hb5
         have H5 : Fil w5 b tol l fresh := Fil.below (by first | exact H4 | exact Fil.alloc H4 _) hb5
         try (have N5 : w5.heap[w3.heap.size + 1]? = some (.cells #[.int .i64 0, .int .i64 0, .int .i64 0, .int .i64 0] 29) := blk_below (by exact blk_new' _ _ hz4.out) hb5
              obtain ⟨n0, n1, n2, n3⟩ := cs4 N5
              obtain ⟨m0, m1, m2, m3⟩ := fs4 N5)))
    all_goals
      first
      | (have hN := N5
         have U5 := below_on (U4.out.alloc U4.out.size (.cells #[.int .i64 0, .int .i64 0, .int .i64 0, .int .i64 0] 29)) hb5 rfl rfl rfl rfl
         have hsz : w3.heap.size ≤ w3.heap.size := Nat.le_refl _
         have R6 := far4 R5 (show w.heap.size ≠ w3.heap.size + 1 by have := U3.size; omega) (.int .i64 r1) (.int .i64 r2) (.int .i64 r3) (.int .i64 r4)
         have U6 := below_put4 U5 (show w.heap.size ≤ w3.heap.size + 1 by have := U3.size; omega) (.int .i64 r1) (.int .i64 r2) (.int .i64 r3) (.int .i64 r4)
         have X6 := far4 B5 (Nat.ne_of_lt (Nat.lt_succ_self _)) (.int .i64 r1) (.int .i64 r2) (.int .i64 r3) (.int .i64 r4)
         have N6 := put4 N5 (.int .i64 r1) (.int .i64 r2) (.int .i64 r3) (.int .i64 r4)
         have H6 := H5.far4 hbn (.int .i64 r1) (.int .i64 r2) (.int .i64 r3) (.int .i64 r4)
         generalize (((w5.setCell ⟨w3.heap.size + 1, 0, none⟩ (.int .i64 r1)).setCell ⟨w3.heap.size + 1, 1, none⟩ (.int .i64 r2)).setCell ⟨w3.heap.size + 1, 2, none⟩ (.int .i64 r3)).setCell ⟨w3.heap.size + 1, 3, none⟩ (.int .i64 r4) = w6 at *
         obtain ⟨d0, d1, d2, d3⟩ := cs4 R6
         obtain ⟨f0, f1, f2, f3⟩ := fs4 R6
         obtain ⟨x0, x1, x2, x3⟩ := cs4 X6
         obtain ⟨n0, n1, n2, n3⟩ := cs4 N6
         obtain ⟨p0, p1, p2⟩ := H6.cells
         replace H6 := Aside0.mk H6
         replace U6 := Aside0.mk U6
         replace R6 := Aside0.mk R6
         replace N6 := Aside0.mk N6
         go_wp2
         go_quiet (fail)
         by_cases hf : fresh < x.f3
         · have hfx := hf
           have cf : decide (fresh < x.f3) = true := decide_eq_true hf
           have R7 := blk_drewN R6.out nq
           have N7 := blk_drewN N6.out nq
           have V7 := (Upd.of_below U6.out (b := b)).drewN nq
           obtain ⟨cs, hB, hcs⟩ := H6.out.drewN nq
           have hF := hcs.setFresh x.f3
           have B8 := blk_set hB 34 (.int .i64 x.f3)
           have R8 := blk_far R7 (p := ⟨b, 34, none⟩) (show w.heap.size ≠ b by omega) (.int .i64 x.f3)
           have N8 := blk_far N7 (p := ⟨b, 34, none⟩) (show w3.heap.size + 1 ≠ b by have := U3.size; have := hsz; omega) (.int .i64 x.f3)
           have V8 := V7.set 34 (.int .i64 x.f3)
           have g34 := (blk_cell hB 34).trans hcs.fresh
           have z34 := blk_frozen hB 34
           obtain ⟨k0, k1, k2, k3⟩ := cs4 R8
           obtain ⟨y0, y1, y2, y3⟩ := fs4 R8
           obtain ⟨m0, m1, m2, m3⟩ := cs4 N8
           have R9 := put4 R8 (.int .i64 r1) (.int .i64 r2) (.int .i64 r3) (.int .i64 r4)
           have B9 := far4 B8 (show b ≠ w.heap.size by omega) (.int .i64 r1) (.int .i64 r2) (.int .i64 r3) (.int .i64 r4)
           have V9 := (((V8.far (g := w.heap.size) (Nat.le_refl _) 0 (.int .i64 r1)).far (g := w.heap.size) (Nat.le_refl _) 1 (.int .i64 r2)).far (g := w.heap.size) (Nat.le_refl _) 2 (.int .i64 r3)).far (g := w.heap.size) (Nat.le_refl _) 3 (.int .i64 r4)
           replace R9 := Aside0.mk R9
           replace B9 := Aside0.mk B9
           replace V9 := Aside0.mk V9
           replace hF := Aside0.mk hF
           clear B8 R8 N8 V8 V7 R7 N7 hcs hB
           go_wp2
           refine bodyPost_ret (results_ctt rfl _ _ w.heap.size _ _ _ _ rfl R9.out Try.underlying29 rfl (by kernel_rfl)) rfl ?_
           exact ⟨rfl, ⟨_, B9.out, hF.out⟩, V9.out⟩
         · have hfx := hf
           have cf : decide (fresh < x.f3) = false := decide_eq_false hf
           have R8 := blk_drewN R6.out nq
           have N8 := blk_drewN N6.out nq
           have V8 := (Upd.of_below U6.out (b := b)).drewN nq
           have H8 := H6.out.drewN nq
           obtain ⟨k0, k1, k2, k3⟩ := cs4 R8
           obtain ⟨y0, y1, y2, y3⟩ := fs4 R8
           obtain ⟨m0, m1, m2, m3⟩ := cs4 N8
           have R9 := put4 R8 (.int .i64 r1) (.int .i64 r2) (.int .i64 r3) (.int .i64 r4)
           have H9 := H8.far4 (show b ≠ w.heap.size by omega) (.int .i64 r1) (.int .i64 r2) (.int .i64 r3) (.int .i64 r4)
           have V9 := (((V8.far (g := w.heap.size) (Nat.le_refl _) 0 (.int .i64 r1)).far (g := w.heap.size) (Nat.le_refl _) 1 (.int .i64 r2)).far (g := w.heap.size) (Nat.le_refl _) 2 (.int .i64 r3)).far (g := w.heap.size) (Nat.le_refl _) 3 (.int .i64 r4)
           replace R9 := Aside0.mk R9
           replace H9 := Aside0.mk H9
           replace V9 := Aside0.mk V9
           clear R8 N8 V8 H8
           go_wp2
           refine bodyPost_ret (results_ctt rfl _ _ w.heap.size _ _ _ _ rfl R9.out Try.underlying29 rfl (by kernel_rfl)) rfl ?_
           exact ⟨rfl, H9.out, V9.out⟩)
      | (have U5 := below_on U4.out hb5 rfl rfl rfl rfl
         have hsz : w3.heap.size ≤ w5.heap.size := Nat.le_of_lt (blk_lt B5)
         have R6 := blk_alloc R5 (.cells #[.int .i64 r1, .int .i64 r2, .int .i64 r3, .int .i64 r4] 29)
         have U6 := U5.alloc U5.size (.cells #[.int .i64 r1, .int .i64 r2, .int .i64 r3, .int .i64 r4] 29)
         have X6 := blk_alloc B5 (.cells #[.int .i64 r1, .int .i64 r2, .int .i64 r3, .int .i64 r4] 29)
         have N6 := blk_new w5 (.cells #[.int .i64 r1, .int .i64 r2, .int .i64 r3, .int .i64 r4] 29)
         have H6 := H5.alloc (.cells #[.int .i64 r1, .int .i64 r2, .int .i64 r3, .int .i64 r4] 29)
         generalize w5.alloc (.cells #[.int .i64 r1, .int .i64 r2, .int .i64 r3, .int .i64 r4] 29) = w6 at *
         obtain ⟨d0, d1, d2, d3⟩ := cs4 R6
         obtain ⟨f0, f1, f2, f3⟩ := fs4 R6
         obtain ⟨x0, x1, x2, x3⟩ := cs4 X6
         obtain ⟨n0, n1, n2, n3⟩ := cs4 N6
         obtain ⟨p0, p1, p2⟩ := H6.cells
         replace H6 := Aside0.mk H6
         replace U6 := Aside0.mk U6
         replace R6 := Aside0.mk R6
         replace N6 := Aside0.mk N6
         go_wp2
         go_quiet (fail)
         by_cases hf : fresh < x.f3
         · have hfx := hf
           have cf : decide (fresh < x.f3) = true := decide_eq_true hf
           have R7 := blk_drewN R6.out nq
           have N7 := blk_drewN N6.out nq
           have V7 := (Upd.of_below U6.out (b := b)).drewN nq
           obtain ⟨cs, hB, hcs⟩ := H6.out.drewN nq
           have hF := hcs.setFresh x.f3
           have B8 := blk_set hB 34 (.int .i64 x.f3)
           have R8 := blk_far R7 (p := ⟨b, 34, none⟩) (show w.heap.size ≠ b by omega) (.int .i64 x.f3)
           have N8 := blk_far N7 (p := ⟨b, 34, none⟩) (show w5.heap.size ≠ b by have := U3.size; have := hsz; omega) (.int .i64 x.f3)
           have V8 := V7.set 34 (.int .i64 x.f3)
           have g34 := (blk_cell hB 34).trans hcs.fresh
           have z34 := blk_frozen hB 34
           obtain ⟨k0, k1, k2, k3⟩ := cs4 R8
           obtain ⟨y0, y1, y2, y3⟩ := fs4 R8
           obtain ⟨m0, m1, m2, m3⟩ := cs4 N8
           have R9 := put4 R8 (.int .i64 r1) (.int .i64 r2) (.int .i64 r3) (.int .i64 r4)
           have B9 := far4 B8 (show b ≠ w.heap.size by omega) (.int .i64 r1) (.int .i64 r2) (.int .i64 r3) (.int .i64 r4)
           have V9 := (((V8.far (g := w.heap.size) (Nat.le_refl _) 0 (.int .i64 r1)).far (g := w.heap.size) (Nat.le_refl _) 1 (.int .i64 r2)).far (g := w.heap.size) (Nat.le_refl _) 2 (.int .i64 r3)).far (g := w.heap.size) (Nat.le_refl _) 3 (.int .i64 r4)
           replace R9 := Aside0.mk R9
           replace B9 := Aside0.mk B9
           replace V9 := Aside0.mk V9
           replace hF := Aside0.mk hF
           clear B8 R8 N8 V8 V7 R7 N7 hcs hB
           go_wp2
           refine bodyPost_ret (results_ctt rfl _ _ w.heap.size _ _ _ _ rfl R9.out Try.underlying29 rfl (by kernel_rfl)) rfl ?_
           exact ⟨rfl, ⟨_, B9.out, hF.out⟩, V9.out⟩
         · have hfx := hf
           have cf : decide (fresh < x.f3) = false := decide_eq_false hf
           have R8 := blk_drewN R6.out nq
           have N8 := blk_drewN N6.out nq
           have V8 := (Upd.of_below U6.out (b := b)).drewN nq
           have H8 := H6.out.drewN nq
           obtain ⟨k0, k1, k2, k3⟩ := cs4 R8
           obtain ⟨y0, y1, y2, y3⟩ := fs4 R8
           obtain ⟨m0, m1, m2, m3⟩ := cs4 N8
           have R9 := put4 R8 (.int .i64 r1) (.int .i64 r2) (.int .i64 r3) (.int .i64 r4)
           have H9 := H8.far4 (show b ≠ w.heap.size by omega) (.int .i64 r1) (.int .i64 r2) (.int .i64 r3) (.int .i64 r4)
           have V9 := (((V8.far (g := w.heap.size) (Nat.le_refl _) 0 (.int .i64 r1)).far (g := w.heap.size) (Nat.le_refl _) 1 (.int .i64 r2)).far (g := w.heap.size) (Nat.le_refl _) 2 (.int .i64 r3)).far (g := w.heap.size) (Nat.le_refl _) 3 (.int .i64 r4)
           replace R9 := Aside0.mk R9
           replace H9 := Aside0.mk H9
           replace V9 := Aside0.mk V9
           clear R8 N8 V8 H8
           go_wp2
           refine bodyPost_ret (results_ctt rfl _ _ w.heap.size _ _ _ _ rfl R9.out Try.underlying29 rfl (by kernel_rfl)) rfl ?_
           exact ⟨rfl, H9.out, V9.out⟩)
end Go.Proofs.Ytkbbjgjbfdpciaa.Fi
