/- The filter's order: cmp.Or, the closure, the sorted row. -/
import Derived.Test.YtkbbjgjbfdpciaaFe
import Derived.Shelf.SlSortCmp.SmallK
namespace Go.Proofs.Ytkbbjgjbfdpciaa.Fi
open Go Go.RowKit Go.Proofs.YtkbbjgjbfdpciaaW.PrintWords Go.Proofs.YtkbbjgjbfdpciaaW.PrintLast Go.Proofs.YtkbbjgjbfdpciaaW.PrintMore Go.Proofs.Ytkbbjgjbfdpciaa.PAll
attribute [local go_sem] max2_int min2_int max_two min_two max_three min_three max_four min_four
set_option linter.unusedVariables false
set_option linter.unusedSimpArgs false

def or2 (a b : Int) : Int := if a = 0 then b else a
set_option maxHeartbeats 2000000 in
theorem or_two (g : Nat) (a b : Int) (w : World) (h0 : w.cell? ⟨g, 0, none⟩ = some (.int .i64 a)) (h1 : w.cell? ⟨g, 1, none⟩ = some (.int .i64 b)) :
    Calls Try.prog 30 #[.slice (some ⟨g, 0, none⟩) 2 2] w fun e w' => e = .returned (.int .i64 (or2 a b)) ∧ w' = w := by
  go_enter Try.func30, Try.ntmps30
  go_wp2
  go_loopw [5, 8] (fun s5 i wr => ∃ k : Nat, k ≤ 2 ∧ i = .int .i64 k ∧ (0 < k → a = 0) ∧ (1 < k → b = 0) ∧ wr = w) (fun _ i _ => 2 - (intOf i).toNat)
  · exact ⟨0, by omega, rfl, by omega, by omega, rfl⟩
  · obtain ⟨k, hk, rfl, ha, hb, rfl⟩ := hrel
    match k, hk with
    | 0, _ =>
      by_cases h : a = 0
      · subst h
        go_wp2
        all_goals
          go_roundw
          case rel => exact ⟨1, by omega, by go_num, by first | trivial | simp, by first | trivial | simp, by first | trivial | rfl⟩
          case measure => simp [intOf]
      · have hq : (a == 0) = false := by simpa using h
        have hr : or2 a b = a := if_neg h
        go_wp2
        all_goals (go_ret; exact ⟨by show Ending.returned (Value.int IntKind.i64 a) = _; rw [hr], rfl⟩)
    | 1, _ =>
      have ha := ha (by omega)
      subst ha
      by_cases h : b = 0
      · subst h
        go_wp2
        all_goals
          go_roundw
          case rel => exact ⟨2, by omega, by go_num, by first | trivial | simp, by first | trivial | simp, by first | trivial | rfl⟩
          case measure => simp [intOf]
      · have hq : (b == 0) = false := by simpa using h
        have hr : or2 0 b = b := if_pos rfl
        go_wp2
        all_goals (go_ret; exact ⟨rfl, rfl⟩)
    | 2, _ =>
      have ha := ha (by omega)
      have hb := hb (by omega)
      subst ha
      subst hb
      go_wp2
      all_goals (go_ret; exact ⟨rfl, rfl⟩)

/-- the order of stages -/
def cfS (x y : S29) : Int := or2 (Lib.compareInt x.f1 y.f1) (Lib.compareInt y.f3 x.f3)

set_option maxHeartbeats 2000000 in
theorem closure_any (x y : S29) (W : World) : Calls Try.prog 29 #[.agg (enc4 x).toArray, .agg (enc4 y).toArray] W fun e w' => e = .returned (.int .i64 (cfS x y)) ∧ ∃ q os', w' = Go.Sort.grow (W.drewN q) os' := by
  show Calls Try.prog 29 #[.agg #[.int .i64 x.f0, .int .i64 x.f1, .int .i64 x.f2, .int .i64 x.f3], .agg #[.int .i64 y.f0, .int .i64 y.f1, .int .i64 y.f2, .int .i64 y.f3]] W _
  have R1 := blk_new W (.cells #[.int .i64 x.f0, .int .i64 x.f1, .int .i64 x.f2, .int .i64 x.f3] 29)
  have R2 := blk_alloc R1 (.cells #[.int .i64 y.f0, .int .i64 y.f1, .int .i64 y.f2, .int .i64 y.f3] 29)
  have R3 := blk_new (W.alloc (.cells #[.int .i64 x.f0, .int .i64 x.f1, .int .i64 x.f2, .int .i64 x.f3] 29)) (.cells #[.int .i64 y.f0, .int .i64 y.f1, .int .i64 y.f2, .int .i64 y.f3] 29)
  have e : ((W.alloc (.cells #[.int .i64 x.f0, .int .i64 x.f1, .int .i64 x.f2, .int .i64 x.f3] 29)).alloc (.cells #[.int .i64 y.f0, .int .i64 y.f1, .int .i64 y.f2, .int .i64 y.f3] 29)) = Go.Sort.grow W #[.cells #[.int .i64 x.f0, .int .i64 x.f1, .int .i64 x.f2, .int .i64 x.f3] 29, .cells #[.int .i64 y.f0, .int .i64 y.f1, .int .i64 y.f2, .int .i64 y.f3] 29] := by
    rw [Go.Sort.alloc_eq_grow, Go.Sort.alloc_eq_grow, Go.Sort.grow_grow]; rfl
  replace e := Aside0.mk e
  have hcmp := fun (a b : Int) (W : World) => Try.cmp_Compare_int a b W
  go_enter Try.func29, Try.ntmps29
  go_wp2
  generalize hW : (W.alloc (.cells #[.int .i64 x.f0, .int .i64 x.f1, .int .i64 x.f2, .int .i64 x.f3] 29)).alloc (.cells #[.int .i64 y.f0, .int .i64 y.f1, .int .i64 y.f2, .int .i64 y.f3] 29) = W1 at *
  have R4 := blk_drewN R2 1
  have R5 := blk_drewN R3 1
  obtain ⟨c0, c1, c2, c3⟩ := cs4 R4
  refine wp_region_still_tail 10 (by kernel_rfl) (by kernel_rfl) ?_
  show wpStill _ _ (W1.drewN 1) (fun a' => wpList _ _ _ _ a' (W1.drewN 1)) _ _
  generalize hW2 : W1.drewN 1 = W2 at *
  have hz : (W.alloc (.cells #[.int .i64 x.f0, .int .i64 x.f1, .int .i64 x.f2, .int .i64 x.f3] 29)).heap.size = W.heap.size + 1 := by rw [Go.Sort.alloc_eq_grow, Go.Sort.size_grow]; rfl
  rw [hz] at R5
  obtain ⟨d0, d1, d2, d3⟩ := cs4 R5
  simp only [List.take_succ_cons, List.take_zero, List.drop_succ_cons, List.drop_zero]
  repeat still_step
  still_call (Try.cmp_Compare_int _ _ _)
  repeat still_step
  still_call (Try.cmp_Compare_int _ _ _)
  repeat still_step
  refine wpStill_nil ?_
  have R6 := blk_new W2 (.cells #[.int .i64 (Lib.compareInt x.f1 y.f1), .int .i64 (Lib.compareInt y.f3 x.f3)] 3)
  obtain ⟨k0, k1⟩ := cs2 R6
  have hor := or_two W2.heap.size _ _ _ k0 k1
  replace hor := Aside0.mk hor
  clear c0 c1 c2 c3 d0 d1 d2 d3 k0 k1
  go_wp2_with (first
    | (go_at_call 30
       with_reducible refine Calls.mono hor.out ?_
       rintro e w3 ⟨rfl, rfl⟩))
  go_ret
  refine ⟨rfl, 1, #[.cells #[.int .i64 x.f0, .int .i64 x.f1, .int .i64 x.f2, .int .i64 x.f3] 29, .cells #[.int .i64 y.f0, .int .i64 y.f1, .int .i64 y.f2, .int .i64 y.f3] 29, .cells #[.int .i64 (Lib.compareInt x.f1 y.f1), .int .i64 (Lib.compareInt y.f3 x.f3)] 3], ?_⟩
  rw [← hW2, e.out, Go.Sort.alloc_eq_grow]
  show Go.Sort.grow (Go.Sort.grow (W.drewN 1) _) _ = _
  rw [Go.Sort.grow_grow]
  rfl

/-- 'cmp < 0' is a strict weak order, and parts whatever two differ in delay or arrival. -/
theorem ltS (x y : S29) : Go.Proofs.ltOf cfS x y = decide (x.f1 < y.f1 ∨ (x.f1 = y.f1 ∧ y.f3 < x.f3)) := by
  unfold Go.Proofs.ltOf cfS or2 Lib.compareInt
  by_cases h1 : x.f1 < y.f1
  · simp [h1]
  · by_cases h2 : y.f1 < x.f1
    · have : ¬ x.f1 = y.f1 := by omega
      simp [h1, h2, this]
    · have h3 : x.f1 = y.f1 := by omega
      by_cases h4 : y.f3 < x.f3
      · simp [h3, h4]
      · by_cases h5 : x.f3 < y.f3 <;> simp [h3, h4, h5]
theorem swoS : Go.Sort.SWO (Go.Proofs.ltOf cfS) where
  irrefl x := by rw [ltS]; simp
  trans x y z h1 h2 := by rw [ltS] at *; simp only [decide_eq_true_eq] at *; omega
  ntrans x y z h1 h2 := by rw [ltS] at *; simp only [decide_eq_false_iff_not] at *; omega
theorem cmpLays_any (blk off size : Nat) (w : World) : Go.Proofs.CmpLays Try.prog 29 #[] enc4 4 cfS blk off size w :=
  fun _ _ _ _ x y => closure_any x y _
theorem hlen_any (n : Nat) (W : World) (h : n ≤ 12) : Calls Try.prog 34 #[.int .u64 n] W fun e w' => (∃ l : Int, e = .returned (.int .i64 l)) ∧ w' = W :=
  (Try.bits_Len n W (by omega) (by omega)).mono fun _ _ ⟨he, hw⟩ => ⟨⟨_, he⟩, hw⟩

/-- the sorted stages -/
def sortS (l : List S29) : List S29 := (Go.Sort.insertionSort (Go.Proofs.ltOf cfS) l.toArray 0 l.toArray.size).toList

open Go.Sort in
theorem sortFunc_any (g cap : Nat) (l : List S29) (w : World) (h : SRow w g l) (h12 : l.length ≤ 12) :
    Calls Try.prog 28 #[.slice (some ⟨g, 0, none⟩) l.length cap, .func (.func 29) #[] #[]] w fun e w' => e = .returned (.tuple #[]) ∧ (sortS l).length = l.length ∧ SRow w' g (sortS l) ∧ Upd w w' g := by
  have eg : ∀ args w, (callFunc 29 args).run Try.prog w = .ok (.enter 29 args) w := enters_of Try.func29 (by kernel_rfl) rfl
  have hH : HoldsK enc4 4 w g 0 l.toArray := by
    intro j hj
    rw [size_flatK] at hj
    have hj' : j < l.length * 4 := by simpa using hj
    have hlt : j / 4 < l.length := by omega
    rw [get_flatK _ _ _ _ hj]
    have hx : l[j / 4]? = some l[j / 4] := List.getElem?_eq_getElem hlt
    have e1 : l.toArray[j / 4]! = l[j / 4] := by rw [getElem!_pos l.toArray (j / 4) (by simpa using hlt)]; simp
    have h4 : j % 4 < (enc4 l[j / 4]).length := by show j % 4 < 4; omega
    have hu : (enc4 l[j / 4])[j % 4]? = some ((enc4 l[j / 4])[j % 4]!) := by rw [getElem!_pos (enc4 l[j / 4]) _ h4]; exact List.getElem?_eq_getElem h4
    have := h.cell (j / 4) _ hx (j % 4) _ hu
    have e : j / 4 * 4 + j % 4 = j := by omega
    rw [e] at this
    rw [e1, Nat.zero_add]
    exact ⟨this, h.frz j hj'⟩
  have hcon := AnyQ.slices_SortFunc_small Try.sortSmp 4 Try.isAgg29 Try.sizeOf29 enc4 (fun _ => rfl) enc_one cfS 29 #[] g 0 cap l.toArray w eg (cmpLays_any g 0 l.toArray.size w) hH h.lt (by simpa using h12) hlen_any
  change Calls Try.prog 28 _ _ _ at hcon
  refine hcon.mono ?_
  rintro e w' ⟨rfl, n, os, rfl⟩
  have hp := (insertionSort_holds (lt := ltOf cfS) swoS l.toArray 0 l.toArray.size (Nat.zero_le _) (Nat.le_refl _)).1
  have hsz : (Go.Sort.insertionSort (ltOf cfS) l.toArray 0 l.toArray.size).size = l.toArray.size := hp.1
  have hlen : (sortS l).length = l.length := by unfold sortS; rw [Array.length_toList, hsz]; simp
  refine ⟨rfl, hlen, ?_, ?_⟩
  · have hK := holdsK_sortWorldK_c enc4 4 w g 0 l.toArray _ n os hH h.lt hsz
    refine ⟨Nat.lt_of_lt_of_le h.lt (size_sortWorldK_c enc4 4 w g 0 n _ os), ?_, ?_⟩
    · intro i x hx j u hu
      have hi : i < (Go.Sort.insertionSort (ltOf cfS) l.toArray 0 l.toArray.size).size := by
        have := (List.getElem?_eq_some_iff.1 hx).1
        unfold sortS at this
        rwa [Array.length_toList] at this
      have hj : j < 4 := (List.getElem?_eq_some_iff.1 hu).1
      have := (hK.cell hi hj).1
      rw [Nat.zero_add] at this
      rw [this]
      have e1 : (Go.Sort.insertionSort (ltOf cfS) l.toArray 0 l.toArray.size)[i]! = x := by
        rw [getElem!_pos _ i hi]
        unfold sortS at hx
        rw [Array.getElem?_toList, Array.getElem?_eq_getElem hi] at hx
        exact Option.some.inj hx
      rw [e1]
      have h4 : j < (enc4 x).length := hj
      rw [getElem!_pos (enc4 x) _ h4]
      rw [List.getElem?_eq_getElem h4] at hu
      exact hu
    · intro i hi
      rw [hlen] at hi
      have := (hK i (by rw [size_flatK, hsz]; simpa using hi)).2
      rwa [Nat.zero_add] at this
  · refine ⟨rfl, rfl, rfl, size_sortWorldK_c enc4 4 w g 0 n _ os, ?_⟩
    intro k hk hne
    show ((w.heap.modify g _) ++ os)[k]? = w.heap[k]?
    rw [Array.getElem?_append_left (by simpa using hk), Array.getElem?_modify, if_neg (Ne.symm hne)]

open Go.Sort in
theorem sortS_perm (l : List S29) : (sortS l).Perm l := by
  have hp := (insertionSort_holds (lt := Go.Proofs.ltOf cfS) swoS l.toArray 0 l.toArray.size (Nat.zero_le _) (Nat.le_refl _)).1
  have h3 := hp.2.2
  have e1 : (Go.Sort.insertionSort (Go.Proofs.ltOf cfS) l.toArray 0 l.toArray.size).extract 0 l.toArray.size = Go.Sort.insertionSort (Go.Proofs.ltOf cfS) l.toArray 0 l.toArray.size := by
    have hq : ∀ (a : Array S29) n, a.size = n → a.extract 0 n = a := by intro a n h; subst h; simp
    exact hq _ _ hp.1
  rw [e1] at h3
  simpa [sortS] using h3
open Go.Sort in
theorem sortS_sorted (l : List S29) (i j : Nat) (hij : i < j) (x y : S29) (hx : (sortS l)[i]? = some x) (hy : (sortS l)[j]? = some y) : ¬ (y.f1 < x.f1 ∨ (y.f1 = x.f1 ∧ x.f3 < y.f3)) := by
  have hp := insertionSort_holds (lt := Go.Proofs.ltOf cfS) swoS l.toArray 0 l.toArray.size (Nat.zero_le _) (Nat.le_refl _)
  have hs := hp.1.1
  have hj : j < (Go.Sort.insertionSort (Go.Proofs.ltOf cfS) l.toArray 0 l.toArray.size).size := by
    have := (List.getElem?_eq_some_iff.1 hy).1
    unfold sortS at this
    rwa [Array.length_toList] at this
  have h := hp.2 i j (Nat.zero_le _) hij (by rw [← hs]; exact hj)
  unfold sortS at hx hy
  rw [Array.getElem?_toList] at hx hy
  rw [getElem!_pos _ j hj, getElem!_pos _ i (by omega)] at h
  rw [Array.getElem?_eq_getElem hj] at hy
  rw [Array.getElem?_eq_getElem (by omega)] at hx
  rw [Option.some.inj hy, Option.some.inj hx, ltS] at h
  simpa using h

set_option maxHeartbeats 1000000 in
theorem ordered_any (b : Nat) (tol : Int) (l : List S29) (fresh : Int) (w : World) (h : Fil w b tol l fresh) :
    Calls Try.prog 23 #[.pointer (some ⟨b, 0, none⟩)] w fun e w' => ∃ g cap, e = .returned (.slice (some ⟨g, 0, none⟩) l.length cap) ∧ w.heap.size ≤ g ∧ l.length ≤ cap ∧ SRow w' g (sortS l) ∧ (sortS l).length = l.length ∧ Below w.heap.size w w' := by
  have h8 := h.len
  have hS := samples_any b tol l fresh w h
  replace hS := Aside0.mk hS
  clear h
  go_enter Try.func23, Try.ntmps23
  go_wp2_with (first
    | (go_at_call 12
       with_reducible refine Calls.mono hS.out ?_
       rintro e w1 ⟨g, cap, rfl, hg, hcap, hR, hb⟩)
    | (go_at_call 28
       with_reducible refine Calls.mono (sortFunc_any g cap l _ hR (by omega)) ?_
       rintro e w2 ⟨rfl, hlen, hR2, hU⟩
       have V := Upd.below hb hU hg hb.size))
  all_goals (go_ret; exact ⟨g, cap, rfl, hg, hcap, hR2, hlen, V⟩)
end Go.Proofs.Ytkbbjgjbfdpciaa.Fi
