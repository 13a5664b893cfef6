/- The filter's Len, Samples, Add. -/
import Derived.Test.YtkbbjgjbfdpciaaFn
import Derived.BigQuiet
import Derived.Test.YtkbbjgjbfdpciaaPAllx4
namespace Go.Proofs.Ytkbbjgjbfdpciaa.Fi
open Go Go.RowKit Go.Proofs.YtkbbjgjbfdpciaaW.PrintWords Go.Proofs.YtkbbjgjbfdpciaaW.PrintLast Go.Proofs.YtkbbjgjbfdpciaaW.PrintMore Go.Proofs.Ytkbbjgjbfdpciaa.PAll
attribute [local go_sem] max2_int min2_int max_two min_two max_three min_three max_four min_four
set_option linter.unusedVariables false
set_option linter.unusedSimpArgs false

set_option maxHeartbeats 1000000 in
theorem len_any (b : Nat) (tol : Int) (l : List S29) (fresh : Int) (w : World) (h : Fil w b tol l fresh) :
    Calls Try.prog 13 #[.pointer (some ⟨b, 0, none⟩)] w fun e w' => e = .returned (.int .i64 (l.length : Int)) ∧ w = w' := by
  obtain ⟨c0, c1, c2⟩ := h.cells
  go_enter Try.func13, Try.ntmps13
  go_wp2
  all_goals (go_ret; exact ⟨rfl, rfl⟩)

/-- a valid sample -/
def okS (x : S29) : Prop := (-4503599627370496 ≤ x.f0 ∧ x.f0 ≤ 4503599627370496) ∧ (-4503599627370496 ≤ x.f3 ∧ x.f3 ≤ 4503599627370496) ∧ (0 ≤ x.f1 ∧ x.f1 ≤ 9007199254740992) ∧ (0 ≤ x.f2 ∧ x.f2 ≤ 9007199254740992)
instance (x : S29) : Decidable (okS x) := by unfold okS; infer_instance
theorem check_tells (x : S29) : sample_Check.f x.f0 x.f1 x.f2 x.f3 = some (if okS x then 0 else 3) := by
  unfold sample_Check.f sample_inside.f
  by_cases h : okS x
  · rw [if_pos h]
    unfold okS at h
    rw [if_pos (by omega), if_pos (by omega), Option.bind_some, if_pos (decide_eq_true (by omega)), Option.bind_some, if_pos (decide_eq_true (by omega)), if_neg (by omega), if_neg (by omega), if_neg (by omega), if_neg (by omega)]
  · rw [if_neg h]
    unfold okS at h
    by_cases h0 : -4503599627370496 ≤ x.f0
    · rw [if_pos h0, Option.bind_some]
      by_cases h1 : x.f0 ≤ 4503599627370496
      · rw [if_pos (decide_eq_true h1)]
        by_cases h2 : -4503599627370496 ≤ x.f3
        · rw [if_pos h2, Option.bind_some]
          by_cases h3 : x.f3 ≤ 4503599627370496
          · rw [if_pos (decide_eq_true h3)]
            by_cases h4 : x.f1 < 0
            · rw [if_pos h4]
            · rw [if_neg h4]
              by_cases h5 : x.f1 > 9007199254740992
              · rw [if_pos h5]
              · rw [if_neg h5]
                by_cases h6 : x.f2 < 0
                · rw [if_pos h6]
                · rw [if_neg h6]
                  rw [if_pos (by omega)]
          · rw [decide_eq_false h3]; rfl
        · rw [if_neg h2]; rfl
      · rw [decide_eq_false h1]; rfl
    · rw [if_neg h0]; rfl
theorem check_any (x : S29) (w : World) : Calls Try.prog 10 #[.agg #[.int .i64 x.f0, .int .i64 x.f1, .int .i64 x.f2, .int .i64 x.f3]] w fun e w' => e = .returned (.int .i64 (if okS x then 0 else 3)) ∧ Below w.heap.size w w' :=
  sample_Check.calls _ _ _ _ _ w (check_tells x)

/-- the stages behind an Add -/
def push (l : List S29) (x : S29) : List S29 := if l.length = 8 then l.tail ++ [x] else l ++ [x]

set_option maxRecDepth 8000 in
set_option maxHeartbeats 2000000 in
theorem add_bad (b : Nat) (tol : Int) (l : List S29) (fresh : Int) (x : S29) (w : World) (h : Fil w b tol l fresh) (hx : ¬ okS x) :
    Calls Try.prog 11 #[.pointer (some ⟨b, 0, none⟩), .agg #[.int .i64 x.f0, .int .i64 x.f1, .int .i64 x.f2, .int .i64 x.f3]] w fun e w' => e = .returned (.int .i64 3) ∧ Below w.heap.size w w' := by
  have U := (Below.refl w.heap.size w).alloc (Nat.le_refl _) (.cells #[.int .i64 x.f0, .int .i64 x.f1, .int .i64 x.f2, .int .i64 x.f3] 29)
  have R := blk_new w (.cells #[.int .i64 x.f0, .int .i64 x.f1, .int .i64 x.f2, .int .i64 x.f3] 29)
  obtain ⟨r0, r1, r2, r3⟩ := cs4 R
  have hC := fun W => check_any x W
  simp only [if_neg hx] at hC
  replace hC := Aside0.mk hC
  go_enter Try.func11, Try.ntmps11
  go_wp2_with (first
    | (go_at_call 10
       with_reducible refine Calls.mono (hC.out _) ?_
       rintro e w1 ⟨rfl, hb⟩
       have U1 := U.trans (hb.mono (by simp))))
  all_goals (go_ret; exact ⟨rfl, U1⟩)


theorem set_ne {cs : Array Value} {i j : Nat} (v : Value) (h : j ≠ i) : (cs.setIfInBounds i v)[j]? = cs[j]? := by
  rw [Array.getElem?_setIfInBounds]; rw [if_neg (by omega)]
theorem set_eq {cs : Array Value} {i : Nat} (v : Value) (h : i < cs.size) : (cs.setIfInBounds i v)[i]? = some v := by
  rw [Array.getElem?_setIfInBounds]; rw [if_pos rfl, if_pos h]
theorem one_set {cs : Array Value} (h : ∀ v ∈ cs.toList, v.oneCell' = true) (i : Nat) (u : Value) (hu : u.oneCell' = true) : ∀ v ∈ (cs.setIfInBounds i u).toList, v.oneCell' = true := by
  intro v hv
  rw [Array.toList_setIfInBounds] at hv
  rcases List.mem_or_eq_of_mem_set hv with h1 | rfl
  · exact h v h1
  · exact hu
/-- a sample laid into stage k -/
def lay (cs : Array Value) (k : Nat) (x : S29) : Array Value := (((cs.setIfInBounds (1 + k * 4) (.int .i64 x.f0)).setIfInBounds (1 + k * 4 + 1) (.int .i64 x.f1)).setIfInBounds (1 + k * 4 + 2) (.int .i64 x.f2)).setIfInBounds (1 + k * 4 + 3) (.int .i64 x.f3)
theorem lay_ne {cs : Array Value} {k j : Nat} {x : S29} (h : j < 1 + k * 4 ∨ 1 + k * 4 + 3 < j) : (lay cs k x)[j]? = cs[j]? := by
  unfold lay
  rw [set_ne _ (by omega), set_ne _ (by omega), set_ne _ (by omega), set_ne _ (by omega)]
theorem FCells.push {cs : Array Value} {tol : Int} {l : List S29} {fresh : Int} (h : FCells cs tol l fresh) {k : Nat} (hk : l.length = k) (h8 : k < 8) (x : S29) :
    FCells ((lay cs k x).setIfInBounds 33 (.int .i64 ((k : Int) + 1))) tol (l ++ [x]) fresh := by
  have hs := h.size
  have hl : (l ++ [x]).length = k + 1 := by simp [hk]
  have hone : ∀ i y, (l ++ [x])[i]? = some y → (i < k ∧ l[i]? = some y) ∨ (i = k ∧ y = x) := by
    intro i y hy
    have hi : i < k + 1 := by rw [← hl]; exact (List.getElem?_eq_some_iff.1 hy).1
    by_cases hik : i < k
    · exact .inl ⟨hik, by rwa [List.getElem?_append_left (by omega)] at hy⟩
    · have : i = k := by omega
      subst this
      rw [List.getElem?_append_right (by omega), hk, Nat.sub_self] at hy
      simp at hy
      exact .inr ⟨rfl, hy.symm⟩
  refine ⟨by simp [lay, hs], one_set (one_set (one_set (one_set (one_set h.one _ _ rfl) _ _ rfl) _ _ rfl) _ _ rfl) _ _ rfl, ?_, ?_, ?_, by omega, ?_, ?_, ?_, ?_⟩
  · rw [set_ne _ (by omega), lay_ne (by omega)]; exact h.tol
  · rw [set_eq _ (by simp [lay, hs]), hl]; rfl
  · rw [set_ne _ (by omega), lay_ne (by omega)]; exact h.fresh
  · intro i y hy
    rcases hone i y hy with ⟨hi, hy⟩ | ⟨rfl, rfl⟩
    · rw [set_ne _ (by omega), lay_ne (by omega)]; exact h.at0 i y hy
    · rw [set_ne _ (by omega)]; unfold lay; rw [set_ne _ (by omega), set_ne _ (by omega), set_ne _ (by omega), set_eq _ (by omega)]
  · intro i y hy
    rcases hone i y hy with ⟨hi, hy⟩ | ⟨rfl, rfl⟩
    · rw [set_ne _ (by omega), lay_ne (by omega)]; exact h.at1 i y hy
    · rw [set_ne _ (by omega)]; unfold lay; rw [set_ne _ (by omega), set_ne _ (by omega), set_eq _ (by simp; omega)]
  · intro i y hy
    rcases hone i y hy with ⟨hi, hy⟩ | ⟨rfl, rfl⟩
    · rw [set_ne _ (by omega), lay_ne (by omega)]; exact h.at2 i y hy
    · rw [set_ne _ (by omega)]; unfold lay; rw [set_ne _ (by omega), set_eq _ (by simp; omega)]
  · intro i y hy
    rcases hone i y hy with ⟨hi, hy⟩ | ⟨rfl, rfl⟩
    · rw [set_ne _ (by omega), lay_ne (by omega)]; exact h.at3 i y hy
    · rw [set_ne _ (by omega)]; unfold lay; rw [set_eq _ (by simp; omega)]

/-- the four stores into a stage, one behind the other -/
theorem stage_stores {w : World} {b : Nat} {cs : Array Value} (hB : w.heap[b]? = some (.cells cs 46 (0, 0))) (hs : cs.size = 35) {k : Nat} (h8 : k < 8) (n : Value) (hn : cs[33]? = some n) (v0 v1 v2 v3 : Value) :
    (∃ u0 u1 u2 u3, w.cell? ⟨b, 1 + k * 4, none⟩ = some u0 ∧ (w.setCell ⟨b, 1 + k * 4, none⟩ v0).cell? ⟨b, 1 + k * 4 + 1, none⟩ = some u1 ∧
      ((w.setCell ⟨b, 1 + k * 4, none⟩ v0).setCell ⟨b, 1 + k * 4 + 1, none⟩ v1).cell? ⟨b, 1 + k * 4 + 2, none⟩ = some u2 ∧
      (((w.setCell ⟨b, 1 + k * 4, none⟩ v0).setCell ⟨b, 1 + k * 4 + 1, none⟩ v1).setCell ⟨b, 1 + k * 4 + 2, none⟩ v2).cell? ⟨b, 1 + k * 4 + 3, none⟩ = some u3) ∧
    ((∀ i, w.frozen? ⟨b, i, none⟩ = false) ∧ (∀ i, (w.setCell ⟨b, 1 + k * 4, none⟩ v0).frozen? ⟨b, i, none⟩ = false) ∧
      (∀ i, ((w.setCell ⟨b, 1 + k * 4, none⟩ v0).setCell ⟨b, 1 + k * 4 + 1, none⟩ v1).frozen? ⟨b, i, none⟩ = false) ∧
      (∀ i, (((w.setCell ⟨b, 1 + k * 4, none⟩ v0).setCell ⟨b, 1 + k * 4 + 1, none⟩ v1).setCell ⟨b, 1 + k * 4 + 2, none⟩ v2).frozen? ⟨b, i, none⟩ = false)) ∧
    ((((w.setCell ⟨b, 1 + k * 4, none⟩ v0).setCell ⟨b, 1 + k * 4 + 1, none⟩ v1).setCell ⟨b, 1 + k * 4 + 2, none⟩ v2).setCell ⟨b, 1 + k * 4 + 3, none⟩ v3).heap[b]? = some (.cells ((((cs.setIfInBounds (1 + k * 4) v0).setIfInBounds (1 + k * 4 + 1) v1).setIfInBounds (1 + k * 4 + 2) v2).setIfInBounds (1 + k * 4 + 3) v3) 46 (0, 0)) := by
  have B1 := blk_set hB (1 + k * 4) v0
  have B2 := blk_set B1 (1 + k * 4 + 1) v1
  have B3 := blk_set B2 (1 + k * 4 + 2) v2
  have B4 := blk_set B3 (1 + k * 4 + 3) v3
  have g : ∀ (d : Array Value) i, d.size = 35 → i < 35 → ∃ u, d[i]? = some u := fun d i hd hi => ⟨d[i]'(by omega), Array.getElem?_eq_getElem (by omega)⟩
  obtain ⟨u0, g0⟩ := g cs (1 + k * 4) hs (by omega)
  obtain ⟨u1, g1⟩ := g (cs.setIfInBounds (1 + k * 4) v0) (1 + k * 4 + 1) (by simp [hs]) (by omega)
  obtain ⟨u2, g2⟩ := g ((cs.setIfInBounds (1 + k * 4) v0).setIfInBounds (1 + k * 4 + 1) v1) (1 + k * 4 + 2) (by simp [hs]) (by omega)
  obtain ⟨u3, g3⟩ := g (((cs.setIfInBounds (1 + k * 4) v0).setIfInBounds (1 + k * 4 + 1) v1).setIfInBounds (1 + k * 4 + 2) v2) (1 + k * 4 + 3) (by simp [hs]) (by omega)
  exact ⟨⟨u0, u1, u2, u3, (blk_cell hB _).trans g0, (blk_cell B1 _).trans g1, (blk_cell B2 _).trans g2, (blk_cell B3 _).trans g3⟩, ⟨blk_frozen hB, blk_frozen B1, blk_frozen B2, blk_frozen B3⟩, B4⟩

set_option maxRecDepth 8000 in
set_option maxHeartbeats 4000000 in
theorem add_few (b : Nat) (tol : Int) (l : List S29) (fresh : Int) (x : S29) (k : Nat) (w : World) (h : Fil w b tol l fresh) (hx : okS x) (hk : l.length = k) (h8 : k < 8)
    (hlast : k = 0 ∨ ∃ j y, k = j + 1 ∧ l[j]? = some y ∧ y.f3 < x.f3) :
    Calls Try.prog 11 #[.pointer (some ⟨b, 0, none⟩), .agg #[.int .i64 x.f0, .int .i64 x.f1, .int .i64 x.f2, .int .i64 x.f3]] w fun e w' => e = .returned (.int .i64 0) ∧ Fil w' b tol (l ++ [x]) fresh ∧ Upd w w' b := by
  have hlt := h.lt
  have U := (Upd.refl w b).alloc (.cells #[.int .i64 x.f0, .int .i64 x.f1, .int .i64 x.f2, .int .i64 x.f3] 29)
  have R := blk_new w (.cells #[.int .i64 x.f0, .int .i64 x.f1, .int .i64 x.f2, .int .i64 x.f3] 29)
  obtain ⟨r0, r1, r2, r3⟩ := cs4 R
  have hne : b ≠ w.heap.size := by omega
  have hC := fun W => check_any x W
  simp only [if_pos hx] at hC
  replace hC := Aside0.mk hC
  replace h := Aside0.mk h
  replace hlast := Aside0.mk hlast
  have e8 : ((k : Int) == 8) = false := by have : ¬ (k : Int) = 8 := by omega
                                           simpa using this
  have e9 : (k == 8) = false := by have : ¬ k = 8 := by omega
                                   simpa using this
  go_enter Try.func11, Try.ntmps11
  go_wp2_with (first
    | (go_at_call 10
       with_reducible refine Calls.mono (hC.out _) ?_
       rintro e w1 ⟨rfl, hb⟩
       have R1 := blk_below R hb
       obtain ⟨r0, r1, r2, r3⟩ := cs4 R1
       have U1 := U.trans (Upd.of_below hb)
       have H1 := (h.out.alloc (.cells #[.int .i64 x.f0, .int .i64 x.f1, .int .i64 x.f2, .int .i64 x.f3] 29)).below hb
       obtain ⟨c0, c1, c2⟩ := H1.cells
       rw [hk] at c1))
  replace H1 := Aside0.mk H1
  rcases hlast.out with hk0 | ⟨j, y, hj, hy, hlx⟩
  · have cg : decide (0 < k) = false := decide_eq_false (by omega)
    clear hk0
    go_quiet (fail)
    replace H1 := H1.out
    have HX := H1.drewN nq
    have RX := blk_drewN R1 nq
    have UX := U1.drewN nq
    go_wp2
    refine region_still_tail 9 (by kernel_rfl) (by kernel_rfl) ?_
    intro w2 hd
    have H2 := HX.drawn1 hd
    have R2 := hd.blk RX
    have V2 := UX.trans (hd.upd b)
    obtain ⟨c0, c1, c2⟩ := H2.cells
    rw [hk] at c1
    obtain ⟨cs, hB, hcs⟩ := H2
    obtain ⟨r0, r1, r2, r3⟩ := cs4 R2
    have e6 := idx44 b k h8
    obtain ⟨⟨u0, u1, u2, u3, g0, g1, g2, g3⟩, ⟨p0, p1, p2, p3⟩, B4⟩ := stage_stores hB hcs.size h8 _ hcs.n (.int .i64 x.f0) (.int .i64 x.f1) (.int .i64 x.f2) (.int .i64 x.f3)
    have V3 := ((((V2.set (1 + k * 4) (.int .i64 x.f0)).set (1 + k * 4 + 1) (.int .i64 x.f1)).set (1 + k * 4 + 2) (.int .i64 x.f2)).set (1 + k * 4 + 3) (.int .i64 x.f3))
    clear hd V2
    simp only [List.take_succ_cons, List.take_zero, List.drop_succ_cons, List.drop_zero]
    repeat still_step
    refine wpStill_nil ?_
    have hF := hcs.push hk h8 x
    replace hF := Aside0.mk hF
    clear hcs
    have q0 : ((((w2.setCell ⟨b, 1 + k * 4, none⟩ (.int .i64 x.f0)).setCell ⟨b, 1 + k * 4 + 1, none⟩ (.int .i64 x.f1)).setCell ⟨b, 1 + k * 4 + 2, none⟩ (.int .i64 x.f2)).setCell ⟨b, 1 + k * 4 + 3, none⟩ (.int .i64 x.f3)).cell? ⟨b, 33, none⟩ = some (.int .i64 (k : Int)) := by
      rw [blk_cell B4]
      exact (lay_ne (by omega)).trans (by rw [← blk_cell hB]; exact c1)
    have q1 := blk_frozen B4
    have B5 := blk_set B4 33 (.int .i64 ((k : Int) + 1))
    have V5 := V3.set 33 (.int .i64 ((k : Int) + 1))
    have e7 : IntKind.i64.wrap ((k : Int) + 1) = (k : Int) + 1 := by have := wrapk (k + 1) (by omega); simpa using this
    clear V3
    replace B5 := Aside0.mk B5
    replace V5 := Aside0.mk V5
    go_wp2
    all_goals (go_ret; exact ⟨rfl, ⟨_, B5.out, hF.out⟩, V5.out⟩)
  · have cg : decide (0 < k) = true := decide_eq_true (by omega)
    replace hj := Aside0.mk hj
    replace hk := Aside0.mk hk
    have cl : decide (x.f3 ≤ y.f3) = false := decide_eq_false (by omega)
    go_quiet (exact Calls.quiet_of ((last_any b tol l j y fresh _ (H1.out.drewN _) (hk.out.trans hj.out) hy).mono fun _ _ h => ⟨h.1, h.2.out⟩))
    replace H1 := H1.out
    replace hk := hk.out
    have HX := H1.drewN nq
    have RX := blk_drewN R1 nq
    have UX := U1.drewN nq
    go_wp2
    refine region_still_tail 9 (by kernel_rfl) (by kernel_rfl) ?_
    intro w2 hd
    have H2 := HX.drawn1 hd
    have R2 := hd.blk RX
    have V2 := UX.trans (hd.upd b)
    obtain ⟨c0, c1, c2⟩ := H2.cells
    rw [hk] at c1
    obtain ⟨cs, hB, hcs⟩ := H2
    obtain ⟨r0, r1, r2, r3⟩ := cs4 R2
    have e6 := idx44 b k h8
    obtain ⟨⟨u0, u1, u2, u3, g0, g1, g2, g3⟩, ⟨p0, p1, p2, p3⟩, B4⟩ := stage_stores hB hcs.size h8 _ hcs.n (.int .i64 x.f0) (.int .i64 x.f1) (.int .i64 x.f2) (.int .i64 x.f3)
    have V3 := ((((V2.set (1 + k * 4) (.int .i64 x.f0)).set (1 + k * 4 + 1) (.int .i64 x.f1)).set (1 + k * 4 + 2) (.int .i64 x.f2)).set (1 + k * 4 + 3) (.int .i64 x.f3))
    clear hd V2
    simp only [List.take_succ_cons, List.take_zero, List.drop_succ_cons, List.drop_zero]
    repeat still_step
    refine wpStill_nil ?_
    have hF := hcs.push hk h8 x
    replace hF := Aside0.mk hF
    clear hcs
    have q0 : ((((w2.setCell ⟨b, 1 + k * 4, none⟩ (.int .i64 x.f0)).setCell ⟨b, 1 + k * 4 + 1, none⟩ (.int .i64 x.f1)).setCell ⟨b, 1 + k * 4 + 2, none⟩ (.int .i64 x.f2)).setCell ⟨b, 1 + k * 4 + 3, none⟩ (.int .i64 x.f3)).cell? ⟨b, 33, none⟩ = some (.int .i64 (k : Int)) := by
      rw [blk_cell B4]
      exact (lay_ne (by omega)).trans (by rw [← blk_cell hB]; exact c1)
    have q1 := blk_frozen B4
    have B5 := blk_set B4 33 (.int .i64 ((k : Int) + 1))
    have V5 := V3.set 33 (.int .i64 ((k : Int) + 1))
    have e7 : IntKind.i64.wrap ((k : Int) + 1) = (k : Int) + 1 := by have := wrapk (k + 1) (by omega); simpa using this
    clear V3
    replace B5 := Aside0.mk B5
    replace V5 := Aside0.mk V5
    go_wp2
    all_goals (go_ret; exact ⟨rfl, ⟨_, B5.out, hF.out⟩, V5.out⟩)
end Go.Proofs.Ytkbbjgjbfdpciaa.Fi
