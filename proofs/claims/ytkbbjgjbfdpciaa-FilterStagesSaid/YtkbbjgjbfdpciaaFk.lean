/- The filter's Disp. -/
import Derived.Test.YtkbbjgjbfdpciaaFj
namespace Go.Proofs.Ytkbbjgjbfdpciaa.Fi
open Go Go.RowKit Go.Proofs.YtkbbjgjbfdpciaaW.PrintWords Go.Proofs.YtkbbjgjbfdpciaaW.PrintLast Go.Proofs.YtkbbjgjbfdpciaaW.PrintMore Go.Proofs.Ytkbbjgjbfdpciaa.PAll Go.Proofs.Ytkbbjgjbfdpciaa.Pure
attribute [local go_sem] max2_int min2_int max_two min_two max_three min_three max_four min_four
set_option linter.unusedVariables false
set_option linter.unusedSimpArgs false

/-- what stage i adds, before it is halved -/
def dT (tol now : Int) (ls : List S29) (i : Nat) : Int :=
  if i < ls.length then (if (growS (ls.getD i z29).f0 (ls.getD i z29).f1 (ls.getD i z29).f2 (ls.getD i z29).f3 now tol).2.2.2.2 = 0 then (growS (ls.getD i z29).f0 (ls.getD i z29).f1 (ls.getD i z29).f2 (ls.getD i z29).f3 now tol).2.2.1 else 16000000000) else 16000000000
def dS (tol now : Int) (ls : List S29) : Nat → Int
  | 0 => 0
  | i + 1 => wrap64 (dS tol now ls i + dT tol now ls i / 2 ^ (i + 1))

set_option maxHeartbeats 1000000 in
theorem disp_empty (b : Nat) (tol : Int) (fresh now : Int) (w : World) (h : Fil w b tol [] fresh) :
    Calls Try.prog 18 #[.pointer (some ⟨b, 0, none⟩), .int .i64 now] w fun e w' => e = .returned (.int .i64 16000000000) ∧ w = w' := by
  obtain ⟨c0, c1, c2⟩ := h.cells
  replace c1 : w.cell? ⟨b, 33, none⟩ = some (.int .i64 0) := c1
  go_enter Try.func18, Try.ntmps18
  go_wp2
  all_goals (go_ret; exact ⟨rfl, rfl⟩)
set_option maxHeartbeats 1000000 in
theorem disp_order (b : Nat) (tol : Int) (l : List S29) (j : Nat) (y : S29) (fresh now : Int) (w : World) (h : Fil w b tol l fresh) (hj : l.length = j + 1) (hy : l[j]? = some y) (hn : now < y.f3) :
    Calls Try.prog 18 #[.pointer (some ⟨b, 0, none⟩), .int .i64 now] w fun e w' => e = .returned (.int .i64 16000000000) ∧ Drawn0 w w' := by
  obtain ⟨c0, c1, c2⟩ := h.cells
  have e1 : (l.length : Int) = (j : Int) + 1 := by omega
  rw [e1] at c1
  have hL := last_any b tol l j y fresh _ h hj hy
  replace hL := Aside0.mk hL
  have hz : ((j : Int) + 1 == 0) = false := beq_false_of_ne (by omega)
  clear h hj e1
  go_enter Try.func18, Try.ntmps18
  go_wp2_with (first
    | (go_at_call 21
       with_reducible refine Calls.mono hL.out ?_
       rintro e w2 ⟨rfl, ⟨nd, rfl⟩⟩))
  all_goals (go_ret; exact ⟨rfl, ⟨nd, rfl⟩⟩)

theorem keepS {w : World} {g b k : Nat} {tol : Int} {l ls : List S29} {fresh : Int} {p : S29} (R : SRow w g ls) (hp : ls[k]? = some p) (H : Fil w b tol l fresh) :
    w.cell? ⟨g, k * 4, none⟩ = some (.int .i64 p.f0) ∧ w.cell? ⟨g, k * 4 + 1, none⟩ = some (.int .i64 p.f1) ∧ w.cell? ⟨g, k * 4 + 2, none⟩ = some (.int .i64 p.f2) ∧ w.cell? ⟨g, k * 4 + 3, none⟩ = some (.int .i64 p.f3) ∧ w.cell? ⟨b, 0, none⟩ = some (.int .i64 tol) := by
  obtain ⟨h0, h1, h2, h3⟩ := R.get hp
  exact ⟨h0, h1, h2, h3, H.cells.1⟩

theorem SRow.alloc {w : World} {g : Nat} {l : List S29} (h : SRow w g l) (o : Obj) : SRow (w.alloc o) g l := h.below ((Below.refl _ _).alloc (Nat.le_refl _) o) h.lt
theorem Upd.put4 (w : World) (g : Nat) (a b c d : Value) : Upd w ((((w.setCell ⟨g, 0, none⟩ a).setCell ⟨g, 1, none⟩ b).setCell ⟨g, 2, none⟩ c).setCell ⟨g, 3, none⟩ d) g :=
  ((((Upd.refl w g).set 0 a).set 1 b).set 2 c).set 3 d
theorem below_on2 {B : Nat} {w W W' w1 : World} (h : Below B w W) (k : Below W'.heap.size W' w1) (e1 : W'.heap = W.heap) (e2 : W'.os = W.os) (e3 : W'.tape = W.tape) (e4 : W'.output = W.output) (hB : B ≤ w.heap.size) : Below B w w1 :=
  h.trans ⟨k.os.trans e2, k.tape.trans e3, k.output.trans e4, by have := k.size; rw [e1] at this; exact this, fun i hi => by
    have h1 := h.size
    have := k.block i (by rw [e1]; omega)
    rw [e1] at this; exact this⟩
theorem dS_succ (tol now : Int) (ls : List S29) (k : Nat) : dS tol now ls (k + 1) = wrap64 (dS tol now ls k + dT tol now ls k / 2 ^ (k + 1)) := rfl
theorem shr_k (k : Nat) (h : k < 8) : IntKind.i64.wrap ((k : Int) + 1) = (k : Int) + 1 := by have := wrapk (k + 1) (by omega); simpa using this

set_option maxRecDepth 8000 in
set_option maxHeartbeats 4000000 in
theorem disp_go (b : Nat) (tol : Int) (l : List S29) (j : Nat) (y : S29) (fresh now : Int) (w : World) (h : Fil w b tol l fresh) (hj : l.length = j + 1) (hy : l[j]? = some y) (hn : y.f3 ≤ now) :
    Calls Try.prog 18 #[.pointer (some ⟨b, 0, none⟩), .int .i64 now] w fun e w' => e = .returned (.int .i64 (dS tol now (sortS l) 8)) ∧ Below w.heap.size w w' := by
  have hlt := h.lt
  have h8 := h.len
  obtain ⟨c0, c1, c2⟩ := h.cells
  have e1 : (l.length : Int) = (j : Int) + 1 := by omega
  rw [e1] at c1
  have hL := last_any b tol l j y fresh _ h hj hy
  replace hL := Aside0.mk hL
  have hz : ((j : Int) + 1 == 0) = false := beq_false_of_ne (by omega)
  have hnn : ¬ (now < y.f3) := by omega
  replace h := Aside0.mk h
  replace hj := Aside0.mk hj
  clear e1
  go_enter Try.func18, Try.ntmps18
  go_wp2_with (first
    | (go_at_call 21
       with_reducible refine Calls.mono hL.out ?_
       rintro e w2 ⟨rfl, ⟨nd, rfl⟩⟩)
    | (go_at_call 23
       with_reducible refine Calls.mono (ordered_any b tol l fresh _ (h.out.drewN nd)) ?_
       rintro e w1 ⟨g, cap, rfl, hg, hcap, hS, hlen, hb⟩
       have hF := (h.out.drewN nd).below hb
       have hB := (pw_below_drewN (Below.refl w.heap.size w) nd).trans hb))
  have hlt1 := hS.lt
  have hne : b ≠ g := by have : (w.drewN nd).heap.size = w.heap.size := rfl
                         omega
  replace hS := Aside0.mk hS
  replace hF := Aside0.mk hF
  replace hB := Aside0.mk hB
  go_loopw [6, 28] (fun s i wr => ∃ k : Nat, k ≤ 8 ∧ i = .int .i64 k ∧ s = .int .i64 (dS tol now (sortS l) k) ∧ SRow wr g (sortS l) ∧ Fil wr b tol l fresh ∧ Below w1.heap.size w1 wr) (fun _ i _ => 8 - (intOf i).toNat)
  · exact ⟨0, by omega, rfl, rfl, hS.out, hF.out, Below.refl _ _⟩
  · obtain ⟨k, hk, rfl, rfl, hR, hH, hL1⟩ := hrel
    by_cases hk8 : k < 8
    · have hkk : (k : Int) < 8 := by omega
      have hkN : decide (k < 8) = true := decide_eq_true hk8
      by_cases hlk : k < l.length
      · have hlkI : (k : Int) < (l.length : Int) := by omega
        have hlkN : decide (k < l.length) = true := decide_eq_true hlk
        have hkl : k < (sortS l).length := by rw [hlen]; exact hlk
        have hp : (sortS l)[k]? = some ((sortS l).getD k z29) := by
          rw [List.getD_eq_getElem?_getD, List.getElem?_eq_getElem hkl]; rfl
        have hd : dT tol now (sortS l) k = (if (growS ((sortS l).getD k z29).f0 ((sortS l).getD k z29).f1 ((sortS l).getD k z29).f2 ((sortS l).getD k z29).f3 now tol).2.2.2.2 = 0 then (growS ((sortS l).getD k z29).f0 ((sortS l).getD k z29).f1 ((sortS l).getD k z29).f2 ((sortS l).getD k z29).f3 now tol).2.2.1 else 16000000000) := if_pos hkl
        generalize (sortS l).getD k z29 = p at *
        obtain ⟨s0, s1, s2, s3⟩ := hR.get hp
        rcases hg1 : growS p.f0 p.f1 p.f2 p.f3 now tol with ⟨r1, r2, r3, r4, r5⟩
        have hG := Aside0.mk (fun W => grow_to p now tol r1 r2 r3 r4 r5 hg1 W)
        rw [hg1] at hd
        dsimp only at hd
        obtain ⟨c0, c1, c2⟩ := hH.cells
        have hk0 : (0 : Int) ≤ (k : Int) := by omega
        have hnn1 := World.new_ne _ _ c0
        have hnn2 := World.new_ne _ _ s0
        replace hR := Aside0.mk hR
        replace hH := Aside0.mk hH
        replace hL1 := Aside0.mk hL1
        go_wp2
        go_region_held3 (fun w' => w'.cell? ⟨g, k * 4, none⟩ = some (.int .i64 p.f0) ∧ w'.cell? ⟨g, k * 4 + 1, none⟩ = some (.int .i64 p.f1) ∧ w'.cell? ⟨g, k * 4 + 2, none⟩ = some (.int .i64 p.f2) ∧ w'.cell? ⟨g, k * 4 + 3, none⟩ = some (.int .i64 p.f3) ∧ w'.cell? ⟨b, 0, none⟩ = some (.int .i64 tol))
          (first | go_keep | exact keepS R5 hp H5 | exact keepS (SRow.alloc R5 _) hp (Fil.alloc H5 _))
          (first
          | (go_at_call 16
             with_reducible refine Calls.mono (hG.out _) ?_
             rintro e w5 ⟨rfl, hb5⟩
             have R5 : SRow w5 g (sortS l) := SRow.below (by first | exact hR.out.drewN 1 | exact SRow.drewN (SRow.alloc hR.out _) 1) hb5 (by first | exact hR.out.lt | exact SRow.lt (SRow.drewN (SRow.alloc hR.out _) 1))
             have H5 : Fil w5 b tol l fresh := Fil.below (by first | exact hH.out | exact Fil.alloc hH.out _) hb5
             try (have N5 : w5.heap[wr.heap.size]? = some (.cells #[.int .i64 0, .int .i64 0, .int .i64 0, .int .i64 0] 29) := blk_below (by exact blk_new _ _) hb5
                  obtain ⟨n0, n1, n2, n3⟩ := cs4 N5
                  obtain ⟨m0, m1, m2, m3⟩ := fs4 N5)))
        all_goals
          first
          | (have hN := N5
             have U5 := below_on2 ((Below.refl wr.heap.size wr).alloc (Nat.le_refl _) (.cells #[.int .i64 0, .int .i64 0, .int .i64 0, .int .i64 0] 29)) hb5 rfl rfl rfl rfl (Nat.le_refl _)
             have N6 := put4 N5 (.int .i64 r1) (.int .i64 r2) (.int .i64 r3) (.int .i64 r4)
             have U6 := below_put4 U5 (Nat.le_refl _) (.int .i64 r1) (.int .i64 r2) (.int .i64 r3) (.int .i64 r4)
             have R6 : SRow _ g (sortS l) := SRow.upd R5 (Upd.put4 w5 wr.heap.size (.int .i64 r1) (.int .i64 r2) (.int .i64 r3) (.int .i64 r4)) (Nat.ne_of_lt hR.out.lt)
             have H6 := H5.far4 (Nat.ne_of_lt hH.out.lt) (.int .i64 r1) (.int .i64 r2) (.int .i64 r3) (.int .i64 r4)
             generalize (((w5.setCell ⟨wr.heap.size, 0, none⟩ (.int .i64 r1)).setCell ⟨wr.heap.size, 1, none⟩ (.int .i64 r2)).setCell ⟨wr.heap.size, 2, none⟩ (.int .i64 r3)).setCell ⟨wr.heap.size, 3, none⟩ (.int .i64 r4) = w6 at *
             obtain ⟨n0, n1, n2, n3⟩ := cs4 N6
             have U7 := hL1.out.trans (U6.mono hL1.out.size)
             have hS' := dS_succ tol now (sortS l) k
             rw [hd] at hS'
             replace R6 := Aside0.mk R6
             replace H6 := Aside0.mk H6
             replace U7 := Aside0.mk U7
             have hsh := shr_k k hk8
             by_cases h5 : r5 = 0
             · subst h5
               rw [if_pos rfl] at hS'
               go_wp2
               go_roundw
               case rel => exact ⟨k + 1, by omega, by go_num, by rw [hS'], R6.out, H6.out, U7.out⟩
               case measure => simp [intOf]; omega
             · have h5' : (r5 == 0) = false := beq_false_of_ne h5
               rw [if_neg h5] at hS'
               clear h5
               go_wp2
               go_roundw
               case rel => exact ⟨k + 1, by omega, by go_num, by rw [hS'], R6.out, H6.out, U7.out⟩
               case measure => simp [intOf]; omega)
          | (have U5 := below_on2 (Below.refl wr.heap.size wr) hb5 rfl rfl rfl rfl (Nat.le_refl _)
             have N6 := blk_new w5 (.cells #[.int .i64 r1, .int .i64 r2, .int .i64 r3, .int .i64 r4] 29)
             have U6 := U5.alloc U5.size (.cells #[.int .i64 r1, .int .i64 r2, .int .i64 r3, .int .i64 r4] 29)
             have R6 := SRow.alloc R5 (.cells #[.int .i64 r1, .int .i64 r2, .int .i64 r3, .int .i64 r4] 29)
             have H6 := H5.alloc (.cells #[.int .i64 r1, .int .i64 r2, .int .i64 r3, .int .i64 r4] 29)
             generalize w5.alloc (.cells #[.int .i64 r1, .int .i64 r2, .int .i64 r3, .int .i64 r4] 29) = w6 at *
             obtain ⟨n0, n1, n2, n3⟩ := cs4 N6
             have U7 := hL1.out.trans (U6.mono hL1.out.size)
             have hS' := dS_succ tol now (sortS l) k
             rw [hd] at hS'
             replace R6 := Aside0.mk R6
             replace H6 := Aside0.mk H6
             replace U7 := Aside0.mk U7
             have hsh := shr_k k hk8
             by_cases h5 : r5 = 0
             · subst h5
               rw [if_pos rfl] at hS'
               go_wp2
               go_roundw
               case rel => exact ⟨k + 1, by omega, by go_num, by rw [hS'], R6.out, H6.out, U7.out⟩
               case measure => simp [intOf]; omega
             · have h5' : (r5 == 0) = false := beq_false_of_ne h5
               rw [if_neg h5] at hS'
               clear h5
               go_wp2
               go_roundw
               case rel => exact ⟨k + 1, by omega, by go_num, by rw [hS'], R6.out, H6.out, U7.out⟩
               case measure => simp [intOf]; omega)
      · have hlkI : ¬ (k : Int) < (l.length : Int) := by omega
        have hlkN : decide (k < l.length) = false := decide_eq_false hlk
        have hd : dT tol now (sortS l) k = 16000000000 := if_neg (by rw [hlen]; exact hlk)
        have hS' := dS_succ tol now (sortS l) k
        rw [hd] at hS'
        replace hR := Aside0.mk hR
        replace hH := Aside0.mk hH
        replace hL1 := Aside0.mk hL1
        have hsh := shr_k k hk8
        go_wp2
        go_roundw
        case rel => exact ⟨k + 1, by omega, by go_num, by rw [hS'], hR.out, hH.out, hL1.out⟩
        case measure => simp [intOf]; omega
    · have hk9 : k = 8 := by omega
      subst hk9
      have hb2 := hB.out.trans (hL1.mono hB.out.size)
      go_wp2
      all_goals (go_ret; exact ⟨rfl, hb2⟩)
end Go.Proofs.Ytkbbjgjbfdpciaa.Fi
