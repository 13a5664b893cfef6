/- The filter's Add: refused for its order; at eight stages. -/
import Derived.Test.YtkbbjgjbfdpciaaFd
import Derived.Laws.CopyOwn
namespace Go.Proofs.Ytkbbjgjbfdpciaa.Fi
open Go Go.RowKit Go.Proofs.YtkbbjgjbfdpciaaW.PrintWords Go.Proofs.YtkbbjgjbfdpciaaW.PrintLast Go.Proofs.YtkbbjgjbfdpciaaW.PrintMore Go.Proofs.Ytkbbjgjbfdpciaa.PAll
attribute [local go_sem] max2_int min2_int max_two min_two max_three min_three max_four min_four
set_option linter.unusedVariables false
set_option linter.unusedSimpArgs false

set_option maxRecDepth 8000 in
set_option maxHeartbeats 4000000 in
theorem add_order (b : Nat) (tol : Int) (l : List S29) (fresh : Int) (x y : S29) (j : Nat) (w : World) (h : Fil w b tol l fresh) (hx : okS x) (hk : l.length = j + 1) (hy : l[j]? = some y) (hlx : x.f3 ≤ y.f3) :
    Calls Try.prog 11 #[.pointer (some ⟨b, 0, none⟩), .agg #[.int .i64 x.f0, .int .i64 x.f1, .int .i64 x.f2, .int .i64 x.f3]] w fun e w' => e = .returned (.int .i64 12) ∧ Below w.heap.size w w' := by
  have U := (Below.refl w.heap.size w).alloc (Nat.le_refl _) (.cells #[.int .i64 x.f0, .int .i64 x.f1, .int .i64 x.f2, .int .i64 x.f3] 29)
  have R := blk_new w (.cells #[.int .i64 x.f0, .int .i64 x.f1, .int .i64 x.f2, .int .i64 x.f3] 29)
  obtain ⟨r0, r1, r2, r3⟩ := cs4 R
  have hC := fun W => check_any x W
  simp only [if_pos hx] at hC
  replace hC := Aside0.mk hC
  replace h := Aside0.mk h
  have e1 : (l.length : Int) = (j : Int) + 1 := by omega
  have cg : (0 : Int) < (j : Int) + 1 := by omega
  have cl : decide (x.f3 ≤ y.f3) = true := decide_eq_true hlx
  replace hk := Aside0.mk hk
  go_enter Try.func11, Try.ntmps11
  go_wp2_with (first
    | (go_at_call 10
       with_reducible refine Calls.mono (hC.out _) ?_
       rintro e w1 ⟨rfl, hb⟩
       have R1 := blk_below R hb
       obtain ⟨r0, r1, r2, r3⟩ := cs4 R1
       have U1 := U.trans (hb.mono (by simp))
       have H1 := (h.out.alloc (.cells #[.int .i64 x.f0, .int .i64 x.f1, .int .i64 x.f2, .int .i64 x.f3] 29)).below hb
       obtain ⟨c0, c1, c2⟩ := H1.cells
       rw [e1] at c1))
  replace H1 := Aside0.mk H1
  clear e1
  have cgN : decide ((0 : Int) < (j : Int) + 1) = true := decide_eq_true cg
  go_quiet (exact Calls.quiet_of ((last_any b tol l j y fresh _ (H1.out.drewN _) hk.out hy).mono fun _ _ h => ⟨h.1, h.2.out⟩))
  have U2 := pw_below_drewN U1 nq
  go_wp2
  all_goals (go_ret; exact ⟨rfl, U2⟩)

/-- the cells behind 'copy(f.stages[:], f.stages[1:])' -/
def shift (cs : Array Value) : Array Value := (cs.toList.take 1 ++ (cs.toList.drop 5).take 28 ++ cs.toList.drop 29).toArray
theorem shift_size {cs : Array Value} (h : cs.size = 35) : (shift cs).size = 35 := by simp [shift, h]
theorem shift_get {cs : Array Value} (h : cs.size = 35) (j : Nat) : (shift cs)[j]? = if 1 ≤ j ∧ j < 29 then cs[j + 4]? else cs[j]? := by
  unfold shift
  rw [List.getElem?_toArray]
  by_cases h1 : j < 1
  · rw [if_neg (by omega), List.append_assoc, List.getElem?_append_left (by simp [h]; omega), List.getElem?_take, if_pos h1, Array.getElem?_toList]
  · by_cases h2 : j < 29
    · rw [if_pos (by omega), List.getElem?_append_left (by simp [h]; omega), List.getElem?_append_right (by simp [h]; omega), List.getElem?_take, if_pos (by simp [h]; omega), List.getElem?_drop, Array.getElem?_toList]
      congr 1
      simp [h]
      omega
    · rw [if_neg (by omega), List.getElem?_append_right (by simp [h]; omega), List.getElem?_drop, Array.getElem?_toList]
      congr 1
      simp [h]
      omega
theorem FCells.shift {cs : Array Value} {tol : Int} {l : List S29} {fresh : Int} (h : FCells cs tol l fresh) (h8 : l.length = 8) : FCells ((shift cs).setIfInBounds 33 (.int .i64 7)) tol l.tail fresh := by
  have hs := h.size
  have ht : l.tail.length = 7 := by simp [h8]
  have hone : ∀ i y, l.tail[i]? = some y → i < 7 ∧ l[i + 1]? = some y := by
    intro i y hy
    have hi : i < 7 := by rw [← ht]; exact (List.getElem?_eq_some_iff.1 hy).1
    exact ⟨hi, by rwa [List.getElem?_tail] at hy⟩
  refine ⟨by simp [shift_size hs], one_set ?_ _ _ rfl, ?_, ?_, ?_, by omega, ?_, ?_, ?_, ?_⟩
  · intro v hv
    unfold Fi.shift at hv
    simp only [List.mem_append] at hv
    rcases hv with (hv | hv) | hv
    · exact h.one v (List.mem_of_mem_take hv)
    · exact h.one v (List.mem_of_mem_drop (List.mem_of_mem_take hv))
    · exact h.one v (List.mem_of_mem_drop hv)
  · rw [set_ne _ (by omega), shift_get hs, if_neg (by omega)]; exact h.tol
  · rw [set_eq _ (by rw [shift_size hs]; omega), ht]; rfl
  · rw [set_ne _ (by omega), shift_get hs, if_neg (by omega)]; exact h.fresh
  · intro i y hy
    obtain ⟨hi, hy⟩ := hone i y hy
    rw [set_ne _ (by omega), shift_get hs, if_pos (by omega)]
    have := h.at0 _ y hy
    rwa [show 1 + (i + 1) * 4 = 1 + i * 4 + 4 by omega] at this
  · intro i y hy
    obtain ⟨hi, hy⟩ := hone i y hy
    rw [set_ne _ (by omega), shift_get hs, if_pos (by omega)]
    have := h.at1 _ y hy
    rwa [show 1 + (i + 1) * 4 + 1 = 1 + i * 4 + 1 + 4 by omega] at this
  · intro i y hy
    obtain ⟨hi, hy⟩ := hone i y hy
    rw [set_ne _ (by omega), shift_get hs, if_pos (by omega)]
    have := h.at2 _ y hy
    rwa [show 1 + (i + 1) * 4 + 2 = 1 + i * 4 + 2 + 4 by omega] at this
  · intro i y hy
    obtain ⟨hi, hy⟩ := hone i y hy
    rw [set_ne _ (by omega), shift_get hs, if_pos (by omega)]
    have := h.at3 _ y hy
    rwa [show 1 + (i + 1) * 4 + 3 = 1 + i * 4 + 3 + 4 by omega] at this

theorem copy_stages {w : World} {b : Nat} {cs : Array Value} (hB : w.heap[b]? = some (.cells cs 46 (0, 0))) (hs : cs.size = 35) (h1 : ∀ v ∈ cs.toList, v.oneCell' = true) :
    Sem.run Try.prog (Builtin.copy_ #[22, 22] 3 #[.slice (some ⟨b, 1, none⟩) 8 8, .slice (some ⟨b, 5, none⟩) 7 7]) w = .ok (.int .i64 7) (w.setRow b (shift cs)) := by
  have hl := run_loadCells_list (P := Try.prog) w ⟨b, 5, none⟩ ((cs.toList.drop 5).take 28) (fun j v hj => by
    rw [Addr.add_lit, blk_cell hB]
    rw [List.getElem?_take] at hj
    split at hj
    · rwa [List.getElem?_drop, Array.getElem?_toList] at hj
    · cases hj)
  have hst := run_storeCells_at Try.prog b 1 46 ((cs.toList.drop 5).take 28) 0 cs w hB (by simp [hs]) (fun v hv => h1 v (List.mem_of_mem_drop (List.mem_of_mem_take hv)))
  have hlen : ((cs.toList.drop 5).take 28).length = 28 := by simp [hs]
  rw [hlen] at hl hst
  have e : (w.setRow b (cs.toList.take (1 + 0) ++ (cs.toList.drop 5).take 28 ++ cs.toList.drop (1 + 0 + 28)).toArray) = w.setRow b (shift cs) := rfl
  simp only [Builtin.copy_, run_underlying Try.underlying22, Builtin.lenOf, Builtin.firstCells, Try.sizeOf29]
  simp [Try.sizeOf29, hl, hst, e, goInt, shift]

theorem slice44all (b : Nat) : ∀ w, Sem.run Try.prog (Instr.sliceAt 44 (.pointer (some ⟨b, 1, none⟩)) none none none) w = .ok (.slice (some ⟨b, 1, none⟩) 8 8) w := by
  intro w
  have hl : Try.prog.arrayLen 44 = 8 := by kernel_rfl
  have he : Try.prog.elem 44 = 29 := by kernel_rfl
  have ht : Try.prog.underlying 44 = some (.array (Try.prog.arrayLen 44) (Try.prog.elem 44)) := by rw [hl, he]; exact Try.underlying44
  rw [run_sliceAt_array_all (ht := ht), hl, he, Try.sizeOf29]
  simp [slicedAt, Addr.add]
theorem slice44one (b : Nat) : ∀ w, Sem.run Try.prog (Instr.sliceAt 44 (.pointer (some ⟨b, 1, none⟩)) (some (.int .i64 1)) none none) w = .ok (.slice (some ⟨b, 5, none⟩) 7 7) w := by
  intro w
  have hl : Try.prog.arrayLen 44 = 8 := by kernel_rfl
  have he : Try.prog.elem 44 = 29 := by kernel_rfl
  have ht : Try.prog.underlying 44 = some (.array (Try.prog.arrayLen 44) (Try.prog.elem 44)) := by rw [hl, he]; exact Try.underlying44
  rw [run_sliceAt_array_l (ht := ht) (h0 := by omega) (h1 := by rw [hl]; omega), hl, he, Try.sizeOf29]
  simp [slicedAt, Addr.add]
theorem setRow_blk {w : World} {b : Nat} {cs : Array Value} {t : TypeId} (hB : w.heap[b]? = some (.cells cs t (0, 0))) (d : Array Value) : (w.setRow b d).heap[b]? = some (.cells d t (0, 0)) := by
  simpa using setRow_heap w b cs d t (0, 0) hB

set_option maxRecDepth 8000 in
set_option maxHeartbeats 4000000 in
theorem add_full (b : Nat) (tol : Int) (l : List S29) (fresh : Int) (x y : S29) (w : World) (h : Fil w b tol l fresh) (hx : okS x) (hk8 : l.length = 8) (hy : l[7]? = some y) (hlx : y.f3 < x.f3) :
    Calls Try.prog 11 #[.pointer (some ⟨b, 0, none⟩), .agg #[.int .i64 x.f0, .int .i64 x.f1, .int .i64 x.f2, .int .i64 x.f3]] w fun e w' => e = .returned (.int .i64 0) ∧ Fil w' b tol (l.tail ++ [x]) fresh ∧ Upd w w' b := by
  have hlt := h.lt
  have U := (Upd.refl w b).alloc (.cells #[.int .i64 x.f0, .int .i64 x.f1, .int .i64 x.f2, .int .i64 x.f3] 29)
  have R := blk_new w (.cells #[.int .i64 x.f0, .int .i64 x.f1, .int .i64 x.f2, .int .i64 x.f3] 29)
  obtain ⟨r0, r1, r2, r3⟩ := cs4 R
  have hne : b ≠ w.heap.size := by omega
  have hC := fun W => check_any x W
  simp only [if_pos hx] at hC
  replace hC := Aside0.mk hC
  replace h := Aside0.mk h
  have cl : decide (x.f3 ≤ y.f3) = false := decide_eq_false (by omega)
  replace hlx := Aside0.mk hlx
  replace hy := Aside0.mk hy
  go_enter Try.func11, Try.ntmps11
  go_wp2_with (first
    | (go_at_call 10
       with_reducible refine Calls.mono (hC.out _) ?_
       rintro e w1 ⟨rfl, hb⟩
       have R1 := blk_below R hb
       obtain ⟨r0, r1, r2, r3⟩ := cs4 R1
       have U1 := U.trans (Upd.of_below hb)
       have H1 := (h.out.alloc (.cells #[.int .i64 x.f0, .int .i64 x.f1, .int .i64 x.f2, .int .i64 x.f3] 29)).below hb
       obtain ⟨c0, c1, c2⟩ := H1.cells
       rw [hk8] at c1))
  replace H1 := Aside0.mk H1
  replace hk8 := Aside0.mk hk8
  replace c1 : w1.cell? ⟨b, 33, none⟩ = some (.int .i64 8) := c1
  go_quiet (exact Calls.quiet_of ((last_any b tol l 7 y fresh _ (H1.out.drewN _) hk8.out hy.out).mono fun _ _ h => ⟨h.1, h.2.out⟩))
  have U2 := U1.drewN nq
  have R2 := blk_drewN R1 nq
  have H2 := Aside0.mk (H1.out.drewN nq)
  go_wp2
  refine region_still_tail 8 (by kernel_rfl) (by kernel_rfl) ?_
  intro w2 hd
  have H3 := H2.out.drawn1 hd
  have R3 := hd.blk R2
  have U3 := U2.trans (hd.upd b)
  obtain ⟨cs, hB, hcs⟩ := H3
  have e6 := slice44all b
  have e7 := slice44one b
  have eC := copy_stages hB hcs.size hcs.one
  simp only [List.take_succ_cons, List.take_zero, List.drop_succ_cons, List.drop_zero]
  repeat still_step
  refine wpStill_nil ?_
  have B4 := setRow_blk hB (shift cs)
  have R4 : (w2.setRow b (shift cs)).heap[w.heap.size]? = some (.cells #[.int .i64 x.f0, .int .i64 x.f1, .int .i64 x.f2, .int .i64 x.f3] 29) := (setRow_other w2 b _ _ (Ne.symm hne)).trans R3
  have U4 : Upd w (w2.setRow b (shift cs)) b := ⟨U3.os, U3.tape, U3.output, by rw [size_setRow]; exact U3.size, fun k hk hb => (setRow_other w2 b k _ hb).trans (U3.block k hk hb)⟩
  have c4 : (w2.setRow b (shift cs)).cell? ⟨b, 33, none⟩ = some (.int .i64 8) := by
    rw [blk_cell B4, shift_get hcs.size, if_neg (by omega), hcs.n, hk8.out]; rfl
  have f4 := blk_frozen B4 33
  have B5 := blk_set B4 33 (.int .i64 7)
  have R5 := blk_far R4 (p := ⟨b, 33, none⟩) (by simpa using Ne.symm hne) (.int .i64 7)
  have U5 := U4.set 33 (.int .i64 7)
  have H5 : Fil ((w2.setRow b (shift cs)).setCell ⟨b, 33, none⟩ (.int .i64 7)) b tol l.tail fresh := ⟨_, B5, hcs.shift hk8.out⟩
  replace B5 := Aside0.mk B5
  replace R5 := Aside0.mk R5
  replace U5 := Aside0.mk U5
  replace H5 := Aside0.mk H5
  clear hd B4 R4 U4 hcs
  go_wp2
  have HX := H5.out
  have RX := R5.out
  have UX := U5.out
  clear B5 R5 U5 H5
  generalize (w2.setRow b (shift cs)).setCell ⟨b, 33, none⟩ (.int .i64 7) = w4 at *
  clear c4 f4 eC hB e6 e7 R3 U3 R2 U2 H2 c0 c1 c2 r0 r1 r2 r3
  obtain ⟨k, h7⟩ : ∃ k, k = 7 := ⟨7, rfl⟩
  have hk : l.tail.length = k := by rw [h7]; simp [hk8.out]
  have h8 : k < 8 := by omega
  clear h7
  refine region_still_tail 9 (by kernel_rfl) (by kernel_rfl) ?_
  intro w2 hd
  have H2 := HX.drawn1 hd
  have R2 := hd.blk RX
  have V2 := UX.trans (hd.upd b)
  obtain ⟨c0, c1, c2⟩ := H2.cells
  rw [hk] at c1
  obtain ⟨cs, hB, hcs⟩ := H2
  obtain ⟨r0, r1, r2, r3⟩ := cs4 R2
  have e6 := idx44 b k h8
  obtain ⟨⟨u0, u1, u2, u3, g0, g1, g2, g3⟩, ⟨p0, p1, p2, p3⟩, B4⟩ := stage_stores hB hcs.size h8 _ hcs.n (.int .i64 x.f0) (.int .i64 x.f1) (.int .i64 x.f2) (.int .i64 x.f3)
  have V3 := ((((V2.set (1 + k * 4) (.int .i64 x.f0)).set (1 + k * 4 + 1) (.int .i64 x.f1)).set (1 + k * 4 + 2) (.int .i64 x.f2)).set (1 + k * 4 + 3) (.int .i64 x.f3))
  clear hd V2
  simp only [List.take_succ_cons, List.take_zero, List.drop_succ_cons, List.drop_zero]
  repeat still_step
  refine wpStill_nil ?_
  have hF := hcs.push hk h8 x
  replace hF := Aside0.mk hF
  clear hcs
  have q0 : ((((w2.setCell ⟨b, 1 + k * 4, none⟩ (.int .i64 x.f0)).setCell ⟨b, 1 + k * 4 + 1, none⟩ (.int .i64 x.f1)).setCell ⟨b, 1 + k * 4 + 2, none⟩ (.int .i64 x.f2)).setCell ⟨b, 1 + k * 4 + 3, none⟩ (.int .i64 x.f3)).cell? ⟨b, 33, none⟩ = some (.int .i64 (k : Int)) := by
    rw [blk_cell B4]
    exact (lay_ne (by omega)).trans (by rw [← blk_cell hB]; exact c1)
  have q1 := blk_frozen B4
  have B5 := blk_set B4 33 (.int .i64 ((k : Int) + 1))
  have V5 := V3.set 33 (.int .i64 ((k : Int) + 1))
  have e7 : IntKind.i64.wrap ((k : Int) + 1) = (k : Int) + 1 := by have := wrapk (k + 1) (by omega); simpa using this
  clear V3
  replace B5 := Aside0.mk B5
  replace V5 := Aside0.mk V5
  go_wp2
  all_goals (go_ret; exact ⟨rfl, ⟨_, B5.out, hF.out⟩, V5.out⟩)
end Go.Proofs.Ytkbbjgjbfdpciaa.Fi
