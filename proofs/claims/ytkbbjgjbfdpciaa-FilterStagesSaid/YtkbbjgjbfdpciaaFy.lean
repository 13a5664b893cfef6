/- What the stages are: valid samples, each later than the one before. Best, in one. -/
import Derived.Test.YtkbbjgjbfdpciaaFw
import Derived.Test.YtkbbjgjbfdpciaaOpenRows4
namespace Go.Proofs.Ytkbbjgjbfdpciaa.Fi
open Go Go.RowKit Go.Proofs.YtkbbjgjbfdpciaaW.PrintWords Go.Proofs.YtkbbjgjbfdpciaaW.PrintLast Go.Proofs.YtkbbjgjbfdpciaaW.PrintMore Go.Proofs.Ytkbbjgjbfdpciaa.PAll Go.Proofs.Ytkbbjgjbfdpciaa.Pure
attribute [local go_sem] max2_int min2_int max_two min_two max_three min_three max_four min_four
set_option linter.unusedVariables false
set_option linter.unusedSimpArgs false

/-- a sample, of its four numbers -/
def smp (p : Int × Int × Int × Int) : S29 := ⟨p.1, p.2.1, p.2.2.1, p.2.2.2⟩
structure Stg (l : List S29) : Prop where
  ok : ∀ x ∈ l, okS x
  inc : ∀ (i j : Nat) (x y : S29), i < j → l[i]? = some x → l[j]? = some y → x.f3 < y.f3
theorem Stg.nil : Stg [] := ⟨fun _ h => (by cases h), fun _ _ _ _ _ h => by simp at h⟩
theorem Stg.tail {l : List S29} (h : Stg l) : Stg l.tail :=
  ⟨fun x hx => h.ok x (List.mem_of_mem_tail hx), fun i j x y hij hx hy => by
    rw [List.getElem?_tail] at hx hy
    exact h.inc (i + 1) (j + 1) x y (by omega) hx hy⟩
theorem Stg.snoc {l : List S29} (h : Stg l) {x : S29} (hx : okS x) (hl : ∀ y, l.getLast? = some y → y.f3 < x.f3) : Stg (l ++ [x]) := by
  refine ⟨fun y hy => ?_, fun i j a b hij ha hb => ?_⟩
  · rcases List.mem_append.1 hy with hy | hy
    · exact h.ok y hy
    · rw [List.mem_singleton.1 hy]; exact hx
  · have hj : j < l.length + 1 := by have := (List.getElem?_eq_some_iff.1 hb).1; simpa using this
    rw [List.getElem?_append_left (by omega)] at ha
    by_cases hjl : j < l.length
    · rw [List.getElem?_append_left hjl] at hb
      exact h.inc i j a b hij ha hb
    · have hjj : j = l.length := by omega
      subst hjj
      rw [List.getElem?_append_right (Nat.le_refl _), Nat.sub_self] at hb
      have hbx : x = b := by simpa using hb
      subst hbx
      have hne : l ≠ [] := by intro e; subst e; simp at ha
      have hlast : l.getLast? = some (l.getLast hne) := List.getLast?_eq_some_getLast hne
      have h1 := hl _ hlast
      obtain ⟨m, hm, hy⟩ := last_get hlast
      by_cases him : i = m
      · subst him
        rw [ha] at hy
        have := Option.some.inj hy
        rw [this]; exact h1
      · have := h.inc i m a _ (by omega) ha hy
        omega
theorem Stg.add {l : List S29} (h : Stg l) (x : S29) : Stg (addL l x) := by
  unfold addL
  by_cases hx : okS x
  · rw [if_pos hx]
    by_cases hf : fits l x = true
    · rw [if_pos hf]
      have hl : ∀ y, l.getLast? = some y → y.f3 < x.f3 := by
        intro y hy
        unfold fits at hf
        rw [hy] at hf
        exact of_decide_eq_true hf
      unfold push
      by_cases h8 : l.length = 8
      · rw [if_pos h8]
        refine h.tail.snoc hx ?_
        intro y hy
        apply hl
        have hne : l ≠ [] := by intro e; subst e; simp at h8
        cases l with
        | nil => exact absurd rfl hne
        | cons a r =>
          rw [List.tail_cons] at hy
          cases r with
          | nil => simp at h8
          | cons c r => rw [List.getLast?_cons_cons]; exact hy
      · rw [if_neg h8]
        exact h.snoc hx hl
    · rw [if_neg hf]; exact h
  · rw [if_neg hx]; exact h

theorem grow_zero {x : S29} {now tol r1 r2 r3 r4 r5 : Int} (h : growS x.f0 x.f1 x.f2 x.f3 now tol = (r1, r2, r3, r4, r5)) (h5 : r5 ≠ 0) : r1 = 0 ∧ r2 = 0 ∧ r3 = 0 ∧ r4 = 0 := by
  unfold growS keep at h
  split at h
  · split at h
    · simp at h; omega
    · split at h
      · simp at h; omega
      · simp at h; omega
  · simp at h; omega

/-- Best of a filter of which nothing was fresh. -/
theorem best_any (b : Nat) (tol : Int) (l : List S29) (j : Nat) (y x : S29) (now : Int) (r1 r2 r3 r4 r5 : Int) (w : World) (h : Fil w b tol l (-9223372036854775808)) (hG : Stg l) (hj : l.length = j + 1) (hy : l[j]? = some y) (hn : y.f3 ≤ now) (hx : (sortS l)[0]? = some x)
    (hg : growS x.f0 x.f1 x.f2 x.f3 now tol = (r1, r2, r3, r4, r5)) :
    Calls Try.prog 15 #[.pointer (some ⟨b, 0, none⟩), .int .i64 now] w fun e w' => e = .returned (.tuple #[.agg #[.int .i64 r1, .int .i64 r2, .int .i64 r3, .int .i64 r4], .bool (r5 == 0), .int .i64 r5]) ∧ (∃ fresh, Fil w' b tol l fresh) ∧ Upd w w' b := by
  have hxm : x ∈ l := (sort_mem l x).1 (List.mem_of_getElem? hx)
  have hok := hG.ok x hxm
  by_cases h5 : r5 = 0
  · subst h5
    refine (best_ok b tol l j y x (-9223372036854775808) now r1 r2 r3 r4 w h hj hy hn hx hg).mono ?_
    rintro e w' ⟨rfl, hF, hU⟩
    have hd : decide ((-9223372036854775808 : Int) < x.f3) = true := decide_eq_true (by unfold okS at hok; omega)
    rw [hd]
    exact ⟨rfl, ⟨_, hF⟩, hU⟩
  · obtain ⟨z1, z2, z3, z4⟩ := grow_zero hg h5
    subst z1 z2 z3 z4
    refine (best_err b tol l j y x (-9223372036854775808) now 0 0 0 0 r5 w h hj hy hn hx hg h5).mono ?_
    rintro e w' ⟨rfl, hB⟩
    have hd : (r5 == 0) = false := beq_false_of_ne h5
    rw [hd]
    exact ⟨rfl, ⟨_, h.below hB⟩, Upd.of_below hB⟩
/-- x is the first of the sorted stages: what the law's loop finds -/
theorem first_of {l : List S29} (hG : Stg l) {bi : Nat} {x : S29} (hb : l[bi]? = some x) (hle : ∀ k y, k < bi → l[k]? = some y → x.f1 ≤ y.f1) (hlt : ∀ k y, bi < k → l[k]? = some y → x.f1 < y.f1) : (sortS l)[0]? = some x := by
  apply sort_first l x (List.mem_of_getElem? hb)
  intro y hy
  obtain ⟨k, hk, hky⟩ := List.getElem_of_mem hy
  have hk' : l[k]? = some y := by rw [List.getElem?_eq_getElem hk, hky]
  rcases Nat.lt_trichotomy k bi with h | h | h
  · have h1 := hle k y h hk'
    have h2 := hG.inc k bi y x h hk' hb
    omega
  · subst h
    rw [hb] at hk'
    exact .inl (Option.some.inj hk').symm
  · exact .inr (.inl (hlt k y h hk'))
end Go.Proofs.Ytkbbjgjbfdpciaa.Fi
