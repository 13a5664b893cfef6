/- Plain laws on the sorted stages, the jitter's sum, the dispersion's sum. -/
import Derived.Test.YtkbbjgjbfdpciaaFl
namespace Go.Proofs.Ytkbbjgjbfdpciaa.Fi
open Go Go.RowKit Go.Proofs.YtkbbjgjbfdpciaaW.PrintWords Go.Proofs.YtkbbjgjbfdpciaaW.PrintLast Go.Proofs.YtkbbjgjbfdpciaaW.PrintMore Go.Proofs.Ytkbbjgjbfdpciaa.PAll Go.Proofs.Ytkbbjgjbfdpciaa.Pure
set_option linter.unusedVariables false
set_option linter.unusedSimpArgs false

theorem sort_mem (l : List S29) (x : S29) : x ∈ sortS l ↔ x ∈ l := (sortS_perm l).mem_iff
theorem sort_len (l : List S29) : (sortS l).length = l.length := (sortS_perm l).length_eq
theorem sort_getD (l : List S29) (i : Nat) (hi : i < l.length) : (sortS l).getD i z29 ∈ l := by
  have h : i < (sortS l).length := by rw [sort_len]; exact hi
  rw [List.getD_eq_getElem?_getD, List.getElem?_eq_getElem h]
  exact (sort_mem l _).1 (List.getElem_mem h)
theorem sort_first (l : List S29) (x : S29) (hx : x ∈ l) (hmin : ∀ y ∈ l, y = x ∨ x.f1 < y.f1 ∨ (x.f1 = y.f1 ∧ y.f3 < x.f3)) : (sortS l)[0]? = some x := by
  have hxs : x ∈ sortS l := (sort_mem l x).2 hx
  obtain ⟨j, hj, hjx⟩ := List.getElem_of_mem hxs
  have h0 : 0 < (sortS l).length := by omega
  have hh : (sortS l)[0] ∈ l := (sort_mem l _).1 (List.getElem_mem h0)
  rw [List.getElem?_eq_getElem h0]
  congr 1
  by_cases hj0 : j = 0
  · subst hj0; exact hjx
  · have hs := sortS_sorted l 0 j (by omega) _ x (List.getElem?_eq_getElem h0) (by rw [List.getElem?_eq_getElem hj, hjx])
    rcases hmin _ hh with h | h
    · exact h
    · exact absurd h hs

/-- a stage's square -/
def tS (o : Int) (x : S29) : Int := apart x.f0 o * apart x.f0 o
def sumS (o : Int) (l : List S29) : Int := (l.map (tS o)).sum
def inO (x : S29) : Prop := -4503599627370496 ≤ x.f0 ∧ x.f0 ≤ 4503599627370496
theorem apart_bd {a b : Int} (ha : -4503599627370496 ≤ a ∧ a ≤ 4503599627370496) (hb : -4503599627370496 ≤ b ∧ b ≤ 4503599627370496) : 0 ≤ apart a b ∧ apart a b ≤ 1073741824 ∧ apart a b = mn (mx (a - b) (b - a)) 1073741824 := by
  unfold apart
  rw [Num.w64_in (by omega) (by omega), Num.w64_in (by omega) (by omega)]
  refine ⟨?_, ?_, rfl⟩
  · unfold mn mx; split <;> split <;> omega
  · unfold mn mx; split <;> split <;> omega
theorem tS_bd {o : Int} {x : S29} (hx : inO x) (ho : -4503599627370496 ≤ o ∧ o ≤ 4503599627370496) : 0 ≤ tS o x ∧ tS o x ≤ 1152921504606846976 := by
  obtain ⟨h0, h1, _⟩ := apart_bd hx ho
  have := Num.mul_bd h0 h1 h0 h1
  unfold tS
  omega
theorem tS_self {x : S29} (hx : inO x) : tS x.f0 x = 0 := by
  have := (apart_bd hx hx).2.2
  unfold tS
  rw [this]
  unfold mn mx
  simp
theorem sum_bd {o : Int} (ho : -4503599627370496 ≤ o ∧ o ≤ 4503599627370496) : ∀ (l : List S29), (∀ x ∈ l, inO x) → 0 ≤ sumS o l ∧ sumS o l ≤ 1152921504606846976 * l.length
  | [], _ => by simp [sumS]
  | a :: r, h => by
    have h1 := tS_bd (h a (List.mem_cons_self ..)) ho
    have h2 := sum_bd ho r (fun x hx => h x (List.mem_cons_of_mem _ hx))
    unfold sumS at *
    rw [List.map_cons, List.sum_cons, List.length_cons]
    push_cast
    omega
theorem sum_perm {o : Int} {l m : List S29} (h : l.Perm m) : sumS o l = sumS o m := by
  unfold sumS
  induction h with
  | nil => rfl
  | cons x _ ih => rw [List.map_cons, List.map_cons, List.sum_cons, List.sum_cons, ih]
  | swap x y l => simp only [List.map_cons, List.sum_cons]; omega
  | trans _ _ h1 h2 => exact h1.trans h2
theorem jS_sum {o : Int} (ho : -4503599627370496 ≤ o ∧ o ≤ 4503599627370496) (ls : List S29) (h : ∀ x ∈ ls, inO x) (h0 : ∃ r, ls = r ++ [] ∧ sumS o ls ≤ 9223372036854775807) :
    ∀ k, k ≤ ls.length → jS o ls k = sumS o (ls.take k)
  | 0, _ => by simp [jS, sumS]
  | k + 1, hk => by
    have ih := jS_sum ho ls h h0 k (by omega)
    have hkl : k < ls.length := by omega
    have e1 : ls.take (k + 1) = ls.take k ++ [ls[k]] := by rw [List.take_add_one, List.getElem?_eq_getElem hkl]; rfl
    have e2 : ls.getD k z29 = ls[k] := by rw [List.getD_eq_getElem?_getD, List.getElem?_eq_getElem hkl]; rfl
    have hm : inO ls[k] := h _ (List.getElem_mem hkl)
    have ht := tS_bd hm ho
    have hs : sumS o (ls.take (k + 1)) = sumS o (ls.take k) + tS o ls[k] := by
      rw [e1]; unfold sumS; rw [List.map_append, List.sum_append]; simp
    have hb1 := (sum_bd ho (ls.take k) (fun x hx => h x (List.mem_of_mem_take hx))).1
    have hb2 : sumS o ls = sumS o (ls.take (k + 1)) + sumS o (ls.drop (k + 1)) := by
      unfold sumS
      rw [← List.sum_append, ← List.map_append, List.take_append_drop]
    have hb3 := (sum_bd ho (ls.drop (k + 1)) (fun x hx => h x (List.mem_of_mem_drop hx))).1
    obtain ⟨_, _, hmx⟩ := h0
    have e3 : jS o ls (k + 1) = wrap64 (jS o ls k + wrap64 (tS o (ls.getD k z29))) := rfl
    rw [e3, ih, e2, Num.w64_in (n := tS o ls[k]) (by omega) (by omega), Num.w64_in (by omega) (by omega), hs]

/-- the sum over the stages, x one of them -/
theorem sum_mem_bd {x : S29} {l : List S29} (hx : x ∈ l) (h : ∀ y ∈ l, inO y) : 0 ≤ sumS x.f0 l ∧ sumS x.f0 l ≤ 1152921504606846976 * ((l.length : Int) - 1) := by
  obtain ⟨p, q, rfl⟩ := List.append_of_mem hx
  have ho := h x hx
  have hp := sum_bd ho p (fun y hy => h y (List.mem_append_left _ hy))
  have hq := sum_bd ho q (fun y hy => h y (List.mem_append_right _ (List.mem_cons_of_mem _ hy)))
  have e : sumS x.f0 (p ++ x :: q) = sumS x.f0 p + sumS x.f0 q := by
    unfold sumS
    rw [List.map_append, List.sum_append, List.map_cons, List.sum_cons]
    have := tS_self ho
    omega
  rw [e, List.length_append, List.length_cons]
  push_cast
  omega
/-- what Jitter returns: x the first of the sorted stages -/
theorem jitter_pure {l : List S29} {x : S29} (h8 : l.length ≤ 8) (h2 : 2 ≤ l.length) (hi : ∀ y ∈ l, inO y) (hx : x ∈ l) :
    jS x.f0 (sortS l) l.length = sumS x.f0 l ∧ 0 ≤ sumS x.f0 l ∧ wrap64 (sumS x.f0 l / ((l.length : Int) - 1)) = sumS x.f0 l / ((l.length : Int) - 1) ∧ 0 ≤ sumS x.f0 l / ((l.length : Int) - 1) ∧ sumS x.f0 l / ((l.length : Int) - 1) ≤ 1152921504606846976 := by
  have hb := sum_mem_bd hx hi
  have hn : (0 : Int) < (l.length : Int) - 1 := by omega
  have hsp := sum_perm (o := x.f0) (sortS_perm l)
  have hbb : sumS x.f0 l ≤ 9223372036854775807 := by omega
  have e := jS_sum (hi x hx) (sortS l) (fun y hy => hi y ((sort_mem l y).1 hy)) ⟨sortS l, by simp, by rw [hsp]; exact hbb⟩ l.length (by rw [sort_len]; exact Nat.le_refl _)
  rw [← sort_len l, List.take_length, hsp] at e
  rw [sort_len] at e
  have hq0 : 0 ≤ sumS x.f0 l / ((l.length : Int) - 1) := Int.ediv_nonneg hb.1 (by omega)
  have hq1 : sumS x.f0 l / ((l.length : Int) - 1) ≤ 1152921504606846976 := by
    apply Int.ediv_le_of_le_mul hn
    exact hb.2
  exact ⟨e, hb.1, Num.w64_in (by omega) (by omega), hq0, hq1⟩
end Go.Proofs.Ytkbbjgjbfdpciaa.Fi
