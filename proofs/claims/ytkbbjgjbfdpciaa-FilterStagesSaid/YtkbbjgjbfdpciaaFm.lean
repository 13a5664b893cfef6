/- The filter's Add in one; Best. -/
import Derived.Test.YtkbbjgjbfdpciaaFo
import Derived.Test.YtkbbjgjbfdpciaaFg
namespace Go.Proofs.Ytkbbjgjbfdpciaa.Fi
open Go Go.RowKit Go.Proofs.YtkbbjgjbfdpciaaW.PrintWords Go.Proofs.YtkbbjgjbfdpciaaW.PrintLast Go.Proofs.YtkbbjgjbfdpciaaW.PrintMore Go.Proofs.Ytkbbjgjbfdpciaa.PAll Go.Proofs.Ytkbbjgjbfdpciaa.Pure
attribute [local go_sem] max2_int min2_int max_two min_two max_three min_three max_four min_four
set_option linter.unusedVariables false
set_option linter.unusedSimpArgs false

/-- whether a sample is behind the last stage -/
def fits (l : List S29) (x : S29) : Bool := match l.getLast? with | none => true | some y => decide (y.f3 < x.f3)
def addE (l : List S29) (x : S29) : Int := if okS x then (if fits l x then 0 else 12) else 3
def addL (l : List S29) (x : S29) : List S29 := if okS x then (if fits l x then push l x else l) else l
theorem last_get {l : List S29} {y : S29} (h : l.getLast? = some y) : ∃ j, l.length = j + 1 ∧ l[j]? = some y := by
  cases l with
  | nil => cases h
  | cons a r =>
    refine ⟨r.length, rfl, ?_⟩
    rw [List.getLast?_eq_getElem?] at h
    simpa using h
theorem add_any (b : Nat) (tol : Int) (l : List S29) (fresh : Int) (x : S29) (w : World) (h : Fil w b tol l fresh) :
    Calls Try.prog 11 #[.pointer (some ⟨b, 0, none⟩), .agg #[.int .i64 x.f0, .int .i64 x.f1, .int .i64 x.f2, .int .i64 x.f3]] w fun e w' => e = .returned (.int .i64 (addE l x)) ∧ Fil w' b tol (addL l x) fresh ∧ Upd w w' b := by
  unfold addE addL
  by_cases hx : okS x
  · rw [if_pos hx, if_pos hx]
    cases hl : l.getLast? with
    | none =>
      have hn : l = [] := List.getLast?_eq_none_iff.1 hl
      subst hn
      have hft : fits [] x = true := rfl
      rw [hft, if_pos rfl, if_pos rfl]
      exact add_few b tol [] fresh x 0 w h hx rfl (by decide) (.inl rfl)
    | some y =>
      obtain ⟨j, hj, hy⟩ := last_get hl
      have hft : fits l x = decide (y.f3 < x.f3) := by unfold fits; rw [hl]
      rw [hft]
      by_cases hf : y.f3 < x.f3
      · rw [decide_eq_true hf, if_pos rfl, if_pos rfl]
        unfold push
        by_cases h8 : l.length = 8
        · rw [if_pos h8]
          have : j = 7 := by omega
          subst this
          exact add_full b tol l fresh x y w h hx h8 hy hf
        · rw [if_neg h8]
          exact add_few b tol l fresh x (j + 1) w h hx hj (by have := h.len; omega) (.inr ⟨j, y, rfl, hy, hf⟩)
      · rw [decide_eq_false hf, if_neg (by decide), if_neg (by decide)]
        exact (add_order b tol l fresh x y j w h hx hj hy (by omega)).mono fun e w' ⟨he, hb⟩ => ⟨he, h.below hb, Upd.of_below hb⟩
  · rw [if_neg hx, if_neg hx]
    exact (add_bad b tol l fresh x w h hx).mono fun e w' ⟨he, hb⟩ => ⟨he, h.below hb, Upd.of_below hb⟩

/-- Grow, as a call. -/
theorem grow_any (x : S29) (now tol : Int) (w : World) :
    Calls Try.prog 16 #[.agg #[.int .i64 x.f0, .int .i64 x.f1, .int .i64 x.f2, .int .i64 x.f3], .int .i64 now, .int .i64 tol] w fun e w' =>
      e = .returned (.tuple #[.agg #[.int .i64 (growS x.f0 x.f1 x.f2 x.f3 now tol).1, .int .i64 (growS x.f0 x.f1 x.f2 x.f3 now tol).2.1, .int .i64 (growS x.f0 x.f1 x.f2 x.f3 now tol).2.2.1, .int .i64 (growS x.f0 x.f1 x.f2 x.f3 now tol).2.2.2.1], .int .i64 (growS x.f0 x.f1 x.f2 x.f3 now tol).2.2.2.2]) ∧ Below w.heap.size w w' :=
  sample_Grow.calls 30 _ _ _ _ _ _ _ _ _ _ _ w (Grow_tells x.f0 x.f1 x.f2 x.f3 now tol 30 (Nat.le_refl _))
theorem grow_to (x : S29) (now tol : Int) (r1 r2 r3 r4 r5 : Int) (h : growS x.f0 x.f1 x.f2 x.f3 now tol = (r1, r2, r3, r4, r5)) (w : World) :
    Calls Try.prog 16 #[.agg #[.int .i64 x.f0, .int .i64 x.f1, .int .i64 x.f2, .int .i64 x.f3], .int .i64 now, .int .i64 tol] w fun e w' =>
      e = .returned (.tuple #[.agg #[.int .i64 r1, .int .i64 r2, .int .i64 r3, .int .i64 r4], .int .i64 r5]) ∧ Below w.heap.size w w' := by
  have := grow_any x now tol w
  rw [h] at this
  exact this

theorem below_on {w W W' w1 : World} (h : Below w.heap.size w W) (k : Below W'.heap.size W' w1) (e1 : W'.heap = W.heap) (e2 : W'.os = W.os) (e3 : W'.tape = W.tape) (e4 : W'.output = W.output) : Below w.heap.size w w1 :=
  h.trans ⟨k.os.trans e2, k.tape.trans e3, k.output.trans e4, by have := k.size; rw [e1] at this; exact this, fun i hi => by
    have h1 := h.size
    have := k.block i (by rw [e1]; omega)
    rw [e1] at this; exact this⟩
theorem blk_new' (w : World) (o : Obj) {n : Nat} (h : w.heap.size = n) : (w.alloc o).heap[n]? = some o := by subst h; exact blk_new w o
theorem put4 {w : World} {g : Nat} {t : TypeId} {a b c d : Value} (R : w.heap[g]? = some (.cells #[a, b, c, d] t (0, 0))) (a' b' c' d' : Value) :
    ((((w.setCell ⟨g, 0, none⟩ a').setCell ⟨g, 1, none⟩ b').setCell ⟨g, 2, none⟩ c').setCell ⟨g, 3, none⟩ d').heap[g]? = some (.cells #[a', b', c', d'] t (0, 0)) :=
  blk_put (blk_put (blk_put (blk_put R 0 _ rfl) 1 _ rfl) 2 _ rfl) 3 _ rfl
theorem below_put4 {B : Nat} {w0 w : World} {g : Nat} (h : Below B w0 w) (hg : B ≤ g) (a' b' c' d' : Value) : Below B w0 ((((w.setCell ⟨g, 0, none⟩ a').setCell ⟨g, 1, none⟩ b').setCell ⟨g, 2, none⟩ c').setCell ⟨g, 3, none⟩ d') :=
  (((h.setCell (p := ⟨g, 0, none⟩) hg a').setCell (p := ⟨g, 1, none⟩) hg b').setCell (p := ⟨g, 2, none⟩) hg c').setCell (p := ⟨g, 3, none⟩) hg d'
theorem far4 {w : World} {g k : Nat} {o : Obj} (R : w.heap[k]? = some o) (hne : k ≠ g) (a' b' c' d' : Value) :
    ((((w.setCell ⟨g, 0, none⟩ a').setCell ⟨g, 1, none⟩ b').setCell ⟨g, 2, none⟩ c').setCell ⟨g, 3, none⟩ d').heap[k]? = some o :=
  (Below.heap_setCell _ ⟨g, 3, none⟩ d' k hne).trans ((Below.heap_setCell _ ⟨g, 2, none⟩ c' k hne).trans ((Below.heap_setCell _ ⟨g, 1, none⟩ b' k hne).trans ((Below.heap_setCell _ ⟨g, 0, none⟩ a' k hne).trans R)))
theorem Fil.far4 {w : World} {b g : Nat} {tol : Int} {l : List S29} {fresh : Int} (h : Fil w b tol l fresh) (hne : b ≠ g) (a' b' c' d' : Value) :
    Fil ((((w.setCell ⟨g, 0, none⟩ a').setCell ⟨g, 1, none⟩ b').setCell ⟨g, 2, none⟩ c').setCell ⟨g, 3, none⟩ d') b tol l fresh := by
  obtain ⟨cs, hb, hc⟩ := h; exact ⟨cs, Fi.far4 hb hne a' b' c' d', hc⟩

set_option maxRecDepth 8000 in
set_option maxHeartbeats 2000000 in
theorem best_empty (b : Nat) (tol : Int) (fresh now : Int) (w : World) (h : Fil w b tol [] fresh) :
    Calls Try.prog 15 #[.pointer (some ⟨b, 0, none⟩), .int .i64 now] w fun e w' => e = .returned (.tuple #[.agg #[.int .i64 0, .int .i64 0, .int .i64 0, .int .i64 0], .bool false, .int .i64 14]) ∧ Below w.heap.size w w' := by
  have R := blk_new w (.cells #[.int .i64 0, .int .i64 0, .int .i64 0, .int .i64 0] 29)
  have U := (Below.refl w.heap.size w).alloc (Nat.le_refl _) (.cells #[.int .i64 0, .int .i64 0, .int .i64 0, .int .i64 0] 29)
  obtain ⟨c0, c1, c2⟩ := (h.alloc (.cells #[.int .i64 0, .int .i64 0, .int .i64 0, .int .i64 0] 29)).cells
  replace c1 : (w.alloc (.cells #[.int .i64 0, .int .i64 0, .int .i64 0, .int .i64 0] 29)).cell? ⟨b, 33, none⟩ = some (.int .i64 0) := c1
  obtain ⟨d0, d1, d2, d3⟩ := cs4 R
  obtain ⟨e0, e1, e2, e3⟩ := fs4 R
  have R' : ((((w.alloc (.cells #[.int .i64 0, .int .i64 0, .int .i64 0, .int .i64 0] 29)))).heap)[w.heap.size]? = some (.cells #[.int .i64 0, .int .i64 0, .int .i64 0, .int .i64 0] 29 (0, 0)) := R
  clear h
  go_enter Try.func15, Try.ntmps15
  go_wp2
  all_goals
    generalize w.alloc (.cells #[.int .i64 0, .int .i64 0, .int .i64 0, .int .i64 0] 29) = w1 at *
    refine bodyPost_ret (results_ctt rfl _ _ w.heap.size _ _ _ _ rfl R Try.underlying29 rfl (by kernel_rfl)) rfl ?_
    exact ⟨rfl, U⟩

set_option maxRecDepth 8000 in
set_option maxHeartbeats 2000000 in
theorem best_order (b : Nat) (tol : Int) (l : List S29) (j : Nat) (y : S29) (fresh now : Int) (w : World) (h : Fil w b tol l fresh) (hj : l.length = j + 1) (hy : l[j]? = some y) (hn : now < y.f3) :
    Calls Try.prog 15 #[.pointer (some ⟨b, 0, none⟩), .int .i64 now] w fun e w' => e = .returned (.tuple #[.agg #[.int .i64 0, .int .i64 0, .int .i64 0, .int .i64 0], .bool false, .int .i64 12]) ∧ Below w.heap.size w w' := by
  have R := blk_new w (.cells #[.int .i64 0, .int .i64 0, .int .i64 0, .int .i64 0] 29)
  have U := (Below.refl w.heap.size w).alloc (Nat.le_refl _) (.cells #[.int .i64 0, .int .i64 0, .int .i64 0, .int .i64 0] 29)
  have H1 := h.alloc (.cells #[.int .i64 0, .int .i64 0, .int .i64 0, .int .i64 0] 29)
  obtain ⟨c0, c1, c2⟩ := H1.cells
  have e1 : (l.length : Int) = (j : Int) + 1 := by omega
  rw [e1] at c1
  have hL := last_any b tol l j y fresh _ H1 hj hy
  replace hL := Aside0.mk hL
  have hz : ((j : Int) + 1 == 0) = false := beq_false_of_ne (by omega)
  clear h hj e1
  go_enter Try.func15, Try.ntmps15
  go_wp2_with (first
    | (go_at_call 21
       with_reducible refine Calls.mono hL.out ?_
       rintro e w2 ⟨rfl, ⟨nd, rfl⟩⟩
       have R2 := blk_drewN R nd
       have U2 := pw_below_drewN U nd
       have R3 := put4 R2 (.int .i64 0) (.int .i64 0) (.int .i64 0) (.int .i64 0)
       have U3 := below_put4 U2 (Nat.le_refl _) (.int .i64 0) (.int .i64 0) (.int .i64 0) (.int .i64 0)
       replace R3 := Aside0.mk R3
       replace U3 := Aside0.mk U3
       obtain ⟨d0, d1, d2, d3⟩ := cs4 R2
       obtain ⟨f0, f1, f2, f3⟩ := fs4 R2))
  all_goals
    generalize (w.alloc (.cells #[.int .i64 0, .int .i64 0, .int .i64 0, .int .i64 0] 29)).drewN nd = w1 at *
    refine bodyPost_ret (results_ctt rfl _ _ w.heap.size _ _ _ _ rfl R3.out Try.underlying29 rfl (by kernel_rfl)) rfl ?_
    exact ⟨rfl, U3.out⟩

theorem keepA {w : World} {g b : Nat} {tol : Int} {l : List S29} {fresh : Int} {x : S29} (B : w.heap[g]? = some (.cells #[.int .i64 x.f0, .int .i64 x.f1, .int .i64 x.f2, .int .i64 x.f3] 29)) (H : Fil w b tol l fresh) :
    w.cell? ⟨g, 0, none⟩ = some (.int .i64 x.f0) ∧ w.cell? ⟨g, 1, none⟩ = some (.int .i64 x.f1) ∧ w.cell? ⟨g, 2, none⟩ = some (.int .i64 x.f2) ∧ w.cell? ⟨g, 3, none⟩ = some (.int .i64 x.f3) ∧ w.cell? ⟨b, 0, none⟩ = some (.int .i64 tol) := by
  obtain ⟨h0, h1, h2, h3⟩ := cs4 B
  exact ⟨h0, h1, h2, h3, H.cells.1⟩
theorem keepB {w : World} {g b : Nat} {tol : Int} {l : List S29} {fresh : Int} {x : S29} (B : w.heap[g]? = some (.cells #[.int .i64 x.f0, .int .i64 x.f1, .int .i64 x.f2, .int .i64 x.f3] 29)) (H : Fil w b tol l fresh) (o : Obj) :
    (w.alloc o).cell? ⟨g, 0, none⟩ = some (.int .i64 x.f0) ∧ (w.alloc o).cell? ⟨g, 1, none⟩ = some (.int .i64 x.f1) ∧ (w.alloc o).cell? ⟨g, 2, none⟩ = some (.int .i64 x.f2) ∧ (w.alloc o).cell? ⟨g, 3, none⟩ = some (.int .i64 x.f3) ∧ (w.alloc o).cell? ⟨b, 0, none⟩ = some (.int .i64 tol) :=
  keepA (blk_alloc B o) (H.alloc o)
theorem keepC {w : World} {g b : Nat} {tol : Int} {l : List S29} {fresh : Int} {x : S29} (B : w.heap[g]? = some (.cells #[.int .i64 x.f0, .int .i64 x.f1, .int .i64 x.f2, .int .i64 x.f3] 29)) (H : Fil w b tol l fresh) (hb : b ≠ g + 1) (r1 r2 r3 r4 : Value) :
    ((((w.setCell ⟨g + 1, 0, none⟩ r1).setCell ⟨g + 1, 1, none⟩ r2).setCell ⟨g + 1, 2, none⟩ r3).setCell ⟨g + 1, 3, none⟩ r4).cell? ⟨g, 0, none⟩ = some (.int .i64 x.f0) ∧ ((((w.setCell ⟨g + 1, 0, none⟩ r1).setCell ⟨g + 1, 1, none⟩ r2).setCell ⟨g + 1, 2, none⟩ r3).setCell ⟨g + 1, 3, none⟩ r4).cell? ⟨g, 1, none⟩ = some (.int .i64 x.f1) ∧
    ((((w.setCell ⟨g + 1, 0, none⟩ r1).setCell ⟨g + 1, 1, none⟩ r2).setCell ⟨g + 1, 2, none⟩ r3).setCell ⟨g + 1, 3, none⟩ r4).cell? ⟨g, 2, none⟩ = some (.int .i64 x.f2) ∧ ((((w.setCell ⟨g + 1, 0, none⟩ r1).setCell ⟨g + 1, 1, none⟩ r2).setCell ⟨g + 1, 2, none⟩ r3).setCell ⟨g + 1, 3, none⟩ r4).cell? ⟨g, 3, none⟩ = some (.int .i64 x.f3) ∧
    ((((w.setCell ⟨g + 1, 0, none⟩ r1).setCell ⟨g + 1, 1, none⟩ r2).setCell ⟨g + 1, 2, none⟩ r3).setCell ⟨g + 1, 3, none⟩ r4).cell? ⟨b, 0, none⟩ = some (.int .i64 tol) :=
  keepA (far4 B (Nat.ne_of_lt (Nat.lt_succ_self _)) r1 r2 r3 r4) (H.far4 hb r1 r2 r3 r4)

set_option maxRecDepth 8000 in
set_option maxHeartbeats 4000000 in
theorem best_err (b : Nat) (tol : Int) (l : List S29) (j : Nat) (y x : S29) (fresh now : Int) (r1 r2 r3 r4 r5 : Int) (w : World) (h : Fil w b tol l fresh) (hj : l.length = j + 1) (hy : l[j]? = some y) (hn : y.f3 ≤ now) (hx : (sortS l)[0]? = some x)
    (hg : growS x.f0 x.f1 x.f2 x.f3 now tol = (r1, r2, r3, r4, r5)) (h5 : r5 ≠ 0) :
    Calls Try.prog 15 #[.pointer (some ⟨b, 0, none⟩), .int .i64 now] w fun e w' => e = .returned (.tuple #[.agg #[.int .i64 0, .int .i64 0, .int .i64 0, .int .i64 0], .bool false, .int .i64 r5]) ∧ Below w.heap.size w w' := by
  have hlt := h.lt
  have R := blk_new w (.cells #[.int .i64 0, .int .i64 0, .int .i64 0, .int .i64 0] 29)
  have U := (Below.refl w.heap.size w).alloc (Nat.le_refl _) (.cells #[.int .i64 0, .int .i64 0, .int .i64 0, .int .i64 0] 29)
  have H1 := h.alloc (.cells #[.int .i64 0, .int .i64 0, .int .i64 0, .int .i64 0] 29)
  obtain ⟨c0, c1, c2⟩ := H1.cells
  have e1 : (l.length : Int) = (j : Int) + 1 := by omega
  rw [e1] at c1
  have hL := last_any b tol l j y fresh _ H1 hj hy
  replace hL := Aside0.mk hL
  have hz : ((j : Int) + 1 == 0) = false := beq_false_of_ne (by omega)
  have hnn : ¬ (now < y.f3) := by omega
  have hG := Aside0.mk (fun W => grow_to x now tol r1 r2 r3 r4 r5 hg W)
  have h5' : (r5 == 0) = false := beq_false_of_ne h5
  have hl0 : (0 : Int) < (l.length : Int) := by omega
  have hlen0 : 0 < l.length := by omega
  replace H1 := Aside0.mk H1
  replace hj := Aside0.mk hj
  clear h hg h5 e1
  go_enter Try.func15, Try.ntmps15
  go_wp2_with (first
    | (go_at_call 21
       with_reducible refine Calls.mono hL.out ?_
       rintro e w2 ⟨rfl, ⟨nd, rfl⟩⟩
       have R2 := blk_drewN R nd
       have U2 := pw_below_drewN U nd
       have H2 := H1.out.drewN nd
       generalize (w.alloc (.cells #[.int .i64 0, .int .i64 0, .int .i64 0, .int .i64 0] 29)).drewN nd = w2 at *)
    | (go_at_call 23
       with_reducible refine Calls.mono (ordered_any b tol l fresh _ H2) ?_
       rintro e w3 ⟨g, cap, rfl, hg3, hcap, hS, hlen, hb⟩
       have H3 := H2.below hb
       have R3 := blk_below R2 hb
       have U3 := U2.trans (hb.mono U2.size)
       obtain ⟨s0, s1, s2, s3⟩ := hS.get hx
       rw [Nat.zero_mul] at s0 s1 s2 s3
       rw [Nat.zero_add] at s1 s2 s3))
  all_goals
    have B4 := blk_new w3 (.cells #[.int .i64 x.f0, .int .i64 x.f1, .int .i64 x.f2, .int .i64 x.f3] 29)
    have H4 := H3.alloc (.cells #[.int .i64 x.f0, .int .i64 x.f1, .int .i64 x.f2, .int .i64 x.f3] 29)
    have R4 := blk_alloc R3 (.cells #[.int .i64 x.f0, .int .i64 x.f1, .int .i64 x.f2, .int .i64 x.f3] 29)
    have U4 := U3.alloc U3.size (.cells #[.int .i64 x.f0, .int .i64 x.f1, .int .i64 x.f2, .int .i64 x.f3] 29)
    obtain ⟨q0, q1, q2, q3⟩ := cs4 B4
    obtain ⟨p0, p1, p2⟩ := H4.cells
    have hz4 : (w3.alloc (.cells #[.int .i64 x.f0, .int .i64 x.f1, .int .i64 x.f2, .int .i64 x.f3] 29)).heap.size = w3.heap.size + 1 := by rw [Go.Sort.alloc_eq_grow, Go.Sort.size_grow]; rfl
    replace hz4 := Aside0.mk hz4
    have hbn : b ≠ w3.heap.size + 1 := by have := U3.size; omega
    have hbn2 : w3.heap.size + 1 ≠ b := Ne.symm hbn
    have hnn1 := World.new_ne _ _ p0
    have hnn2 := World.new_ne _ _ q0
    clear s0 s1 s2 s3 hS
    replace U4 := Aside0.mk U4
    go_region_held3 (fun w' => w'.cell? ⟨w3.heap.size, 0, none⟩ = some (.int .i64 x.f0) ∧ w'.cell? ⟨w3.heap.size, 1, none⟩ = some (.int .i64 x.f1) ∧ w'.cell? ⟨w3.heap.size, 2, none⟩ = some (.int .i64 x.f2) ∧ w'.cell? ⟨w3.heap.size, 3, none⟩ = some (.int .i64 x.f3) ∧ w'.cell? ⟨b, 0, none⟩ = some (.int .i64 tol))
      (first | go_keep | exact keepA B5 H5 | exact keepB B5 H5 _ | exact keepC B5 H5 hbn (.int .i64 r1) (.int .i64 r2) (.int .i64 r3) (.int .i64 r4) | exact (keepC B5 H5 hbn (.int .i64 r1) (.int .i64 r2) (.int .i64 r3) (.int .i64 r4)).2.2.2.2)
      (first
      | (go_at_call 16
         with_reducible refine Calls.mono (hG.out _) ?_
         rintro e w5 ⟨rfl, hb5⟩
         have B5 : w5.heap[w3.heap.size]? = some (.cells #[.int .i64 x.f0, .int .i64 x.f1, .int .i64 x.f2, .int .i64 x.f3] 29) := blk_below (by first | exact B4 | exact blk_alloc B4 _) hb5
         have R5 : w5.heap[w.heap.size]? = some (.cells #[.int .i64 0, .int .i64 0, .int .i64 0, .int .i64 0] 29) := blk_below (by first | exact R4 | exact blk_alloc R4 _) hb5
         have H5 : Fil w5 b tol l fresh := Fil.below (by first | exact H4 | exact Fil.alloc H4 _) hb5
         try (have N5 : w5.heap[w3.heap.size + 1]? = some (.cells #[.int .i64 0, .int .i64 0, .int .i64 0, .int .i64 0] 29) := blk_below (by exact blk_new' _ _ hz4.out) hb5
              obtain ⟨n0, n1, n2, n3⟩ := cs4 N5
              obtain ⟨m0, m1, m2, m3⟩ := fs4 N5)))
    all_goals
      first
      | (have hN := N5
         have U5 := below_on (U4.out.alloc U4.out.size (.cells #[.int .i64 0, .int .i64 0, .int .i64 0, .int .i64 0] 29)) hb5 rfl rfl rfl rfl
         have R6 := far4 R5 (show w.heap.size ≠ w3.heap.size + 1 by have := U3.size; omega) (.int .i64 r1) (.int .i64 r2) (.int .i64 r3) (.int .i64 r4)
         have U6 := below_put4 U5 (show w.heap.size ≤ w3.heap.size + 1 by have := U3.size; omega) (.int .i64 r1) (.int .i64 r2) (.int .i64 r3) (.int .i64 r4)
         generalize (((w5.setCell ⟨w3.heap.size + 1, 0, none⟩ (.int .i64 r1)).setCell ⟨w3.heap.size + 1, 1, none⟩ (.int .i64 r2)).setCell ⟨w3.heap.size + 1, 2, none⟩ (.int .i64 r3)).setCell ⟨w3.heap.size + 1, 3, none⟩ (.int .i64 r4) = w6 at *
         obtain ⟨d0, d1, d2, d3⟩ := cs4 R6
         obtain ⟨f0, f1, f2, f3⟩ := fs4 R6
         have R7 := put4 R6 (.int .i64 0) (.int .i64 0) (.int .i64 0) (.int .i64 0)
         have U7 := below_put4 U6 (Nat.le_refl _) (.int .i64 0) (.int .i64 0) (.int .i64 0) (.int .i64 0)
         replace R7 := Aside0.mk R7
         replace U7 := Aside0.mk U7
         go_wp2
         refine bodyPost_ret (results_ctt rfl _ _ w.heap.size _ _ _ _ rfl R7.out Try.underlying29 rfl (by kernel_rfl)) rfl ?_
         exact ⟨rfl, U7.out⟩)
      | (have U5 := below_on U4.out hb5 rfl rfl rfl rfl
         have R6 := blk_alloc R5 (.cells #[.int .i64 r1, .int .i64 r2, .int .i64 r3, .int .i64 r4] 29)
         have U6 := U5.alloc U5.size (.cells #[.int .i64 r1, .int .i64 r2, .int .i64 r3, .int .i64 r4] 29)
         generalize w5.alloc (.cells #[.int .i64 r1, .int .i64 r2, .int .i64 r3, .int .i64 r4] 29) = w6 at *
         obtain ⟨d0, d1, d2, d3⟩ := cs4 R6
         obtain ⟨f0, f1, f2, f3⟩ := fs4 R6
         have R7 := put4 R6 (.int .i64 0) (.int .i64 0) (.int .i64 0) (.int .i64 0)
         have U7 := below_put4 U6 (Nat.le_refl _) (.int .i64 0) (.int .i64 0) (.int .i64 0) (.int .i64 0)
         replace R7 := Aside0.mk R7
         replace U7 := Aside0.mk U7
         go_wp2
         refine bodyPost_ret (results_ctt rfl _ _ w.heap.size _ _ _ _ rfl R7.out Try.underlying29 rfl (by kernel_rfl)) rfl ?_
         exact ⟨rfl, U7.out⟩)
end Go.Proofs.Ytkbbjgjbfdpciaa.Fi
