/- Jitter of stages and of shifted stages. -/
import Derived.Test.YtkbbjgjbfdpciaaFy
namespace Go.Proofs.Ytkbbjgjbfdpciaa.Fi
open Go Go.RowKit Go.Proofs.YtkbbjgjbfdpciaaW.PrintWords Go.Proofs.YtkbbjgjbfdpciaaW.PrintLast Go.Proofs.YtkbbjgjbfdpciaaW.PrintMore Go.Proofs.Ytkbbjgjbfdpciaa.PAll Go.Proofs.Ytkbbjgjbfdpciaa.Pure
attribute [local go_sem] max2_int min2_int max_two min_two max_three min_three max_four min_four
set_option linter.unusedVariables false
set_option linter.unusedSimpArgs false

/-- a sample whose offset is shifted -/
def sh (d : Int) (x : S29) : S29 := ⟨x.f0 + d, x.f1, x.f2, x.f3⟩
def off50 (x : S29) : Prop := -1125899906842624 ≤ x.f0 ∧ x.f0 ≤ 1125899906842624
theorem sh_ok {d : Int} {x : S29} (h0 : -1000000000 ≤ d) (h1 : d ≤ 1000000000) (ho : off50 x) (h : okS x) : okS (sh d x) := by
  unfold okS off50 sh at *
  dsimp only
  omega
theorem sh_last (d : Int) (l : List S29) : (l.map (sh d)).getLast? = l.getLast?.map (sh d) := by
  rw [List.getLast?_eq_getElem?, List.getLast?_eq_getElem?, List.getElem?_map, List.length_map]
theorem sh_fits (d : Int) (l : List S29) (x : S29) : fits (l.map (sh d)) (sh d x) = fits l x := by
  unfold fits
  rw [sh_last]
  cases l.getLast? <;> rfl
theorem sh_push (d : Int) (l : List S29) (x : S29) : push (l.map (sh d)) (sh d x) = (push l x).map (sh d) := by
  unfold push
  rw [List.length_map]
  split
  · rw [List.map_append, List.map_tail]; rfl
  · rw [List.map_append]; rfl
theorem sh_addE {d : Int} {l : List S29} {x : S29} (h0 : -1000000000 ≤ d) (h1 : d ≤ 1000000000) (ho : off50 x) (h : okS x) : addE (l.map (sh d)) (sh d x) = addE l x := by
  unfold addE
  rw [if_pos (sh_ok h0 h1 ho h), if_pos h, sh_fits]
theorem sh_addL {d : Int} {l : List S29} {x : S29} (h0 : -1000000000 ≤ d) (h1 : d ≤ 1000000000) (ho : off50 x) (h : okS x) : addL (l.map (sh d)) (sh d x) = (addL l x).map (sh d) := by
  unfold addL
  rw [if_pos (sh_ok h0 h1 ho h), if_pos h, sh_fits]
  split
  · exact sh_push d l x
  · rfl
theorem off_add {l : List S29} {x : S29} (h : ∀ y ∈ l, off50 y) (hx : off50 x) : ∀ y ∈ addL l x, off50 y := by
  unfold addL push
  intro y hy
  split at hy
  · split at hy
    · split at hy
      · rcases List.mem_append.1 hy with hy | hy
        · exact h y (List.mem_of_mem_tail hy)
        · rw [List.mem_singleton.1 hy]; exact hx
      · rcases List.mem_append.1 hy with hy | hy
        · exact h y hy
        · rw [List.mem_singleton.1 hy]; exact hx
    · exact h y hy
  · exact h y hy

theorem first_min {l : List S29} (hG : Stg l) {x : S29} (hx : (sortS l)[0]? = some x) : ∀ y ∈ l, y = x ∨ x.f1 < y.f1 ∨ (x.f1 = y.f1 ∧ y.f3 < x.f3) := by
  intro y hy
  have hxm : x ∈ l := (sort_mem l x).1 (List.mem_of_getElem? hx)
  obtain ⟨j, hj, hjy⟩ := List.getElem_of_mem ((sort_mem l y).2 hy)
  by_cases hj0 : j = 0
  · subst hj0
    left
    rw [List.getElem?_eq_getElem hj] at hx
    rw [← hjy]; exact Option.some.inj hx
  · have hs := sortS_sorted l 0 j (by omega) x y hx (by rw [List.getElem?_eq_getElem hj, hjy])
    obtain ⟨a, ha, hax⟩ := List.getElem_of_mem hxm
    obtain ⟨c, hc, hcy⟩ := List.getElem_of_mem hy
    rcases Nat.lt_trichotomy a c with h | h | h
    · have := hG.inc a c x y h (by rw [List.getElem?_eq_getElem ha, hax]) (by rw [List.getElem?_eq_getElem hc, hcy])
      omega
    · subst h
      left
      rw [← hcy, ← hax]
    · have := hG.inc c a y x h (by rw [List.getElem?_eq_getElem hc, hcy]) (by rw [List.getElem?_eq_getElem ha, hax])
      omega

theorem sh_tS {d o : Int} {y : S29} (h0 : -1000000000 ≤ d) (h1 : d ≤ 1000000000) (hy : off50 y) (ho : -1125899906842624 ≤ o ∧ o ≤ 1125899906842624) : tS (o + d) (sh d y) = tS o y := by
  unfold off50 at hy
  unfold tS
  have e1 := (apart_bd (a := y.f0) (b := o) (by omega) (by omega)).2.2
  have e2 := (apart_bd (a := y.f0 + d) (b := o + d) (by omega) (by omega)).2.2
  have e3 : (sh d y).f0 = y.f0 + d := rfl
  rw [e3, e1, e2]
  have e4 : y.f0 + d - (o + d) = y.f0 - o := by omega
  have e5 : o + d - (y.f0 + d) = o - y.f0 := by omega
  rw [e4, e5]
theorem sh_sum {d o : Int} (h0 : -1000000000 ≤ d) (h1 : d ≤ 1000000000) (ho : -1125899906842624 ≤ o ∧ o ≤ 1125899906842624) : ∀ (l : List S29), (∀ y ∈ l, off50 y) → sumS (o + d) (l.map (sh d)) = sumS o l
  | [], _ => rfl
  | a :: r, h => by
    have ih := sh_sum h0 h1 ho r (fun y hy => h y (List.mem_cons_of_mem _ hy))
    have ha := sh_tS h0 h1 (h a (List.mem_cons_self ..)) ho
    unfold sumS at *
    rw [List.map_cons, List.map_cons, List.sum_cons, List.map_cons, List.sum_cons, ih, ha]
theorem sum_zero {x : S29} (hx : off50 x) : ∀ (l : List S29), (∀ y ∈ l, y.f0 = x.f0) → sumS x.f0 l = 0
  | [], _ => rfl
  | a :: r, h => by
    have ih := sum_zero hx r (fun y hy => h y (List.mem_cons_of_mem _ hy))
    have ha : tS x.f0 a = 0 := by
      have := tS_self (x := x) (by unfold off50 inO at *; omega)
      unfold tS at *
      rw [h a (List.mem_cons_self ..)]
      exact this
    unfold sumS at *
    rw [List.map_cons, List.sum_cons, ih, ha]
    rfl

theorem jit_two (b1 b2 : Nat) (l : List S29) (d : Int) (h0 : -1000000000 ≤ d) (h1 : d ≤ 1000000000) (hG : Stg l) (ho : ∀ y ∈ l, off50 y) (h8 : l.length ≤ 8) :
    ∃ r : Int, 0 ≤ r ∧ r ≤ 1073741824 ∧ ((∀ (k : Nat) (y z : S29), l[k]? = some y → l[0]? = some z → y.f0 = z.f0) → r = 0) ∧
      (∀ W fr, Fil W b1 0 l fr → Calls Try.prog 17 #[.pointer (some ⟨b1, 0, none⟩)] W fun e w' => e = .returned (.int .i64 r) ∧ Below W.heap.size W w') ∧
      (∀ W fr, Fil W b2 0 (l.map (sh d)) fr → Calls Try.prog 17 #[.pointer (some ⟨b2, 0, none⟩)] W fun e w' => e = .returned (.int .i64 r) ∧ Below W.heap.size W w') := by
  by_cases h2 : l.length < 2
  · refine ⟨0, by omega, by omega, fun _ => rfl, fun W fr h => (jitter_few b1 0 l fr W h h2).mono ?_, fun W fr h => (jitter_few b2 0 _ fr W h (by rw [List.length_map]; exact h2)).mono ?_⟩
    · rintro e w' ⟨rfl, rfl⟩; exact ⟨rfl, Below.refl _ _⟩
    · rintro e w' ⟨rfl, rfl⟩; exact ⟨rfl, Below.refl _ _⟩
  · have hl0 : 0 < (sortS l).length := by rw [sort_len]; omega
    have hx : (sortS l)[0]? = some (sortS l)[0] := List.getElem?_eq_getElem hl0
    generalize (sortS l)[0] = x at hx
    have hxm : x ∈ l := (sort_mem l x).1 (List.mem_of_getElem? hx)
    have hmin := first_min hG hx
    have hxo := ho x hxm
    have hi : ∀ y ∈ l, inO y := fun y hy => by have := ho y hy; unfold off50 inO at *; omega
    have hp := jitter_pure h8 (by omega) hi hxm
    have hl' : (l.map (sh d)).length = l.length := List.length_map _
    have hi' : ∀ y ∈ l.map (sh d), inO y := fun y hy => by
      obtain ⟨z, hz, rfl⟩ := List.mem_map.1 hy
      have := ho z hz; unfold off50 inO sh at *; dsimp only; omega
    have hxm' : sh d x ∈ l.map (sh d) := List.mem_map.2 ⟨x, hxm, rfl⟩
    have hx' : (sortS (l.map (sh d)))[0]? = some (sh d x) := by
      apply sort_first _ _ hxm'
      intro y hy
      obtain ⟨z, hz, rfl⟩ := List.mem_map.1 hy
      rcases hmin z hz with h | h
      · exact .inl (by rw [h])
      · exact .inr h
    have hp' := jitter_pure (by rw [hl']; exact h8) (by rw [hl']; omega) hi' hxm'
    rw [hl'] at hp'
    have hsum : sumS (sh d x).f0 (l.map (sh d)) = sumS x.f0 l := sh_sum h0 h1 hxo l ho
    rw [hsum] at hp'
    obtain ⟨r, hr, hrt⟩ := Sq.Sqrt_tells (sumS x.f0 l / ((l.length : Int) - 1)) hp.2.2.2.1 (by omega) 33 (Nat.le_refl _)
    obtain ⟨r0, r1, r2⟩ := hrt
    refine ⟨r, r0, ?_, ?_, fun W fr h => jitter_many b1 0 l fr x r W h (by omega) hx (by rw [hp.1]; exact hp.2.1) (by rw [hp.1, hp.2.2.1]; exact hr), fun W fr h => jitter_many b2 0 _ fr (sh d x) r W h (by rw [hl']; omega) hx' (by rw [hl', hp'.1]; exact hp'.2.1) (by rw [hl', hp'.1, hp'.2.2.1]; exact hr)⟩
    · rcases Int.lt_or_le 1073741824 r with h | h
      · have : (1073741825 : Int) * 1073741825 ≤ r * r := Int.mul_le_mul (by omega) (by omega) (by omega) (by omega)
        omega
      · exact h
    · intro heq
      have hall : ∀ y ∈ l, y.f0 = x.f0 := by
        intro y hy
        obtain ⟨k, hk, hky⟩ := List.getElem_of_mem hy
        obtain ⟨m, hm, hmx⟩ := List.getElem_of_mem hxm
        have hz : l[0]? = some (l[0]'(by omega)) := List.getElem?_eq_getElem (by omega)
        have a1 := heq k y _ (by rw [List.getElem?_eq_getElem hk, hky]) hz
        have a2 := heq m x _ (by rw [List.getElem?_eq_getElem hm, hmx]) hz
        rw [a1, a2]
      rw [sum_zero hxo l hall, Int.zero_ediv] at r1 r2
      rcases Int.lt_or_le 0 r with h | h
      · have : (1 : Int) * 1 ≤ r * r := Int.mul_le_mul (by omega) (by omega) (by omega) (by omega)
        omega
      · omega
end Go.Proofs.Ytkbbjgjbfdpciaa.Fi
