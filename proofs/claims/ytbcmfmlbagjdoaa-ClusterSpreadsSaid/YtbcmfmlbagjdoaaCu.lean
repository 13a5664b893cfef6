/- Plain facts for the clusters' laws: two orders of one set, bounds of a spread. -/
import Derived.Test.YtbcmfmlbagjdoaaCl
namespace Go.Proofs.Ytbcmfmlbagjdoaa.Cq
open Go Go.RowKit Go.Proofs.Ytbcmfmlbagjdoaa.PAll Go.Proofs.Ytbcmfmlbagjdoaa.Ca Go.Proofs.YtbcmfmlbagjdoaaW.PrintWords Go.Proofs.YtbcmfmlbagjdoaaW.PrintMore
set_option linter.unusedVariables false
set_option linter.unusedSimpArgs false

/-- as many of a list's elements, no two alike: the list in another order -/
theorem perm_of_sub : ∀ (m l : List S34), ids m → (∀ p ∈ m, p ∈ l) → l.length ≤ m.length → m.Perm l
  | [], l, _, _, hl => by
    have : l = [] := List.eq_nil_of_length_eq_zero (by simpa using hl)
    subst this
    exact List.Perm.nil
  | a :: m, l, hm, hs, hl => by
    obtain ⟨s, t, rfl⟩ := List.append_of_mem (hs a (List.mem_cons_self ..))
    have h1 := List.pairwise_cons.1 hm
    have hp : m.Perm (s ++ t) := by
      refine perm_of_sub m (s ++ t) h1.2 (fun p hp => ?_) ?_
      · have h2 := hs p (List.mem_cons_of_mem _ hp)
        rw [List.mem_append, List.mem_cons] at h2
        rw [List.mem_append]
        rcases h2 with h | h | h
        · exact Or.inl h
        · subst h
          exact absurd rfl (h1.1 _ hp)
        · exact Or.inr h
      · simp at hl ⊢
        omega
    exact (List.Perm.cons a hp).trans List.perm_middle.symm
theorem isort_perm_eq {l m : List S34} (h : l.Perm m) (k : ids l) : isort l = isort m :=
  sorted_unique _ _ ((isort_perm l).trans (h.trans (isort_perm m).symm)) (fun i j x y a b c => strict_get (isort_strict l k) i j x y a b c) (fun i j x y a b c => strict_get (isort_strict m (ids_perm h k)) i j x y a b c)

theorem dist_comm (a b : Int) : dist a b = dist b a := by
  have e : (if a < b then b - a else a - b) = (if b < a then a - b else b - a) := by
    by_cases h : a < b
    · rw [if_pos h, if_neg (by omega)]
    · by_cases h2 : b < a
      · rw [if_neg h, if_pos h2]
      · rw [if_neg h, if_neg h2]
        omega
  unfold dist
  rw [e]
theorem dist_self (a : Int) : dist a a = 0 := by unfold dist; simp
/-- the sum is no more than a bound for each of the others -/
theorem sumd_le (o : Int) (l : List S34) (B : Int) (hB : 0 ≤ B) : ∀ k : Nat, (∀ j : Nat, j < k → dist (rd_T34 l (j : Int)).f1 o * dist (rd_T34 l (j : Int)).f1 o ≤ B) → sumd o l k ≤ (k : Int) * B
  | 0, _ => by simp [sumd]
  | k + 1, h => by
    have ih := sumd_le o l B hB k (fun j hj => h j (by omega))
    have h2 := h k (by omega)
    simp only [sumd]
    rw [Int.natCast_add, Int.add_mul, Int.natCast_one, Int.one_mul]
    omega
theorem sumd_but (o : Int) (l : List S34) (B : Int) (hB : 0 ≤ B) (i : Nat) (hi : (rd_T34 l (i : Int)).f1 = o) : ∀ k : Nat, i < k → (∀ j : Nat, j < k → dist (rd_T34 l (j : Int)).f1 o * dist (rd_T34 l (j : Int)).f1 o ≤ B) → sumd o l k ≤ ((k : Int) - 1) * B
  | 0, h, _ => by omega
  | k + 1, hk, h => by
    have h2 := h k (by omega)
    simp only [sumd]
    rw [show ((k + 1 : Nat) : Int) - 1 = (k : Int) by omega]
    by_cases e : i = k
    · subst e
      have ih := sumd_le o l B hB i (fun j hj => h j (by omega))
      rw [hi, dist_self]
      omega
    · have ih := sumd_but o l B hB i hi k (by omega) (fun j hj => h j (by omega))
      have e2 : (k : Int) * B = ((k : Int) - 1) * B + B := by rw [Int.sub_mul, Int.one_mul]; omega
      omega
/-- a spread is at most a bound of all distances -/
theorem sp_le {l : List S34} (h : fine l) (i : Int) (h0 : 0 ≤ i) (h1 : i < (l.length : Int)) (G : Int) (hG : 0 ≤ G) (hb : ∀ j : Nat, j < l.length → dist (rd_T34 l (j : Int)).f1 (rd_T34 l i).f1 ≤ G) : sp l i ≤ G := by
  obtain ⟨_, hr0, hr1, hr2⟩ := sp_tells h i h0 h1
  have hn : 2 ≤ l.length := h.1
  have hs := sumd_but (rd_T34 l i).f1 l (G * G) (Int.mul_nonneg hG hG) i.toNat (by rw [show ((i.toNat : Nat) : Int) = i by omega]) l.length (by omega)
    (fun j hj => by have h2 := hb j hj; have h3 := dist_in (rd_T34 l (j : Int)).f1 (rd_T34 l i).f1; exact Int.mul_le_mul h2 h2 h3.1 hG)
  have hq : sumd (rd_T34 l i).f1 l l.length / ((l.length : Int) - 1) ≤ G * G := by
    have : sumd (rd_T34 l i).f1 l l.length < (G * G + 1) * ((l.length : Int) - 1) := by
      rw [Int.add_mul, Int.one_mul, Int.mul_comm (G * G)]; omega
    have := Int.ediv_lt_of_lt_mul (by omega) this
    omega
  by_cases hle : sp l i ≤ G
  · exact hle
  · exfalso
    have : (G + 1) * (G + 1) ≤ sp l i * sp l i := Int.mul_le_mul (by omega) (by omega) (by omega) (by omega)
    have e : (G + 1) * (G + 1) = G * G + 2 * G + 1 := by rw [Int.add_mul, Int.mul_add]; omega
    omega
theorem sp_top {l : List S34} (h : fine l) (i : Int) (h0 : 0 ≤ i) (h1 : i < (l.length : Int)) : sp l i ≤ 1073741824 :=
  sp_le h i h0 h1 _ (by decide) (fun j _ => (dist_in _ _).2)
/-- two candidates -/
theorem sp_two {l : List S34} (h : fine l) (h2 : l.length = 2) (i : Int) (h0 : 0 ≤ i) (h1 : i < (l.length : Int)) : sp l i = dist (rd_T34 l (1 - i)).f1 (rd_T34 l i).f1 := by
  obtain ⟨_, hr⟩ := sp_tells h i h0 h1
  have hd := dist_in (rd_T34 l (1 - i)).f1 (rd_T34 l i).f1
  refine Sq.root_one hr ⟨hd.1, ?_, ?_⟩
  all_goals
    have hs : sumd (rd_T34 l i).f1 l l.length / ((l.length : Int) - 1) = dist (rd_T34 l (1 - i)).f1 (rd_T34 l i).f1 * dist (rd_T34 l (1 - i)).f1 (rd_T34 l i).f1 := by
      rw [h2]
      show (0 + dist (rd_T34 l 0).f1 (rd_T34 l i).f1 * dist (rd_T34 l 0).f1 (rd_T34 l i).f1 + dist (rd_T34 l 1).f1 (rd_T34 l i).f1 * dist (rd_T34 l 1).f1 (rd_T34 l i).f1) / 1 = _
      rw [Int.ediv_one]
      by_cases hi : i = 0
      · subst hi
        rw [dist_self]
        simp
      · have : i = 1 := by omega
        subst this
        rw [dist_self (rd_T34 l 1).f1]
        simp
    rw [hs]
  · exact Int.le_refl _
  · have e : (dist (rd_T34 l (1 - i)).f1 (rd_T34 l i).f1 + 1) * (dist (rd_T34 l (1 - i)).f1 (rd_T34 l i).f1 + 1) = dist (rd_T34 l (1 - i)).f1 (rd_T34 l i).f1 * dist (rd_T34 l (1 - i)).f1 (rd_T34 l i).f1 + 2 * dist (rd_T34 l (1 - i)).f1 (rd_T34 l i).f1 + 1 := by rw [Int.add_mul, Int.mul_add]; omega
    omega
/-- what the spread hangs on -/
theorem sumd_same (o o' : Int) (l m : List S34) : ∀ k : Nat, (∀ j : Nat, j < k → dist (rd_T34 l (j : Int)).f1 o = dist (rd_T34 m (j : Int)).f1 o') → sumd o l k = sumd o' m k
  | 0, _ => rfl
  | k + 1, h => by
    simp only [sumd]
    rw [sumd_same o o' l m k (fun j hj => h j (by omega)), h k (by omega)]
theorem sp_same {l m : List S34} (h : fine l) (k : fine m) (e : l.length = m.length) (i : Int) (h0 : 0 ≤ i) (h1 : i < (l.length : Int)) (hd : ∀ j : Nat, j < l.length → dist (rd_T34 l (j : Int)).f1 (rd_T34 l i).f1 = dist (rd_T34 m (j : Int)).f1 (rd_T34 m i).f1) : sp l i = sp m i := by
  obtain ⟨_, hr⟩ := sp_tells h i h0 h1
  obtain ⟨_, hs⟩ := sp_tells k i h0 (by omega)
  rw [← e, ← sumd_same _ _ l m l.length hd] at hs
  exact Sq.root_one hr hs

/-- equal lists are the same -/
theorem same_from (x : List S34) (h12 : x.length ≤ 12) : True := trivial
end Go.Proofs.Ytbcmfmlbagjdoaa.Cq
