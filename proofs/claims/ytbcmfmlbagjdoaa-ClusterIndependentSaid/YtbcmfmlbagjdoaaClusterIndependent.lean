/- ClusterIndependent. -/
import Derived.Test.YtbcmfmlbagjdoaaCu
import Derived.Test.YtbcmfmlbagjdoaaPAllx51
namespace Go.Proofs.Ytbcmfmlbagjdoaa.Cq
open Go Go.RowKit Go.Proofs.Ytbcmfmlbagjdoaa.PAll Go.Proofs.Ytbcmfmlbagjdoaa.Ca Go.Proofs.YtbcmfmlbagjdoaaW.PrintWords Go.Proofs.YtbcmfmlbagjdoaaW.PrintMore
set_option linter.unusedVariables false
set_option linter.unusedSimpArgs false

theorem ind_l0 (x : List S34) (turn keep : Int) (h30 : x.length ≤ 30) (ht : 0 ≤ turn) (ht2 : turn ≤ 100) (K : Nat)
    (hc : ∀ k, K ≤ k → ∀ m : List S34, m.length = x.length → (∀ p ∈ m, p ∈ x) → ((choose_Check.f k x).bind fun t281 => (if t281 = 0 then ((choose_Check.f k m).bind fun t282 => (timesynclaw25_ClusterIndependent.j2 k x keep m (t282 != 0))) else (timesynclaw25_ClusterIndependent.j2 k x keep m true))) = some true) :
    ∀ (n : Nat) (y : List S34) (i : Int) (k : Nat), i + n = (x.length : Int) → (y.length : Int) = i → (∀ p ∈ y, p ∈ x) → K + n + 1 ≤ k → timesynclaw25_ClusterIndependent.l0 k x turn keep y i = some true := by
  intro n
  induction n with
  | zero =>
    intro y i k hi hy hm hk
    obtain ⟨k, rfl⟩ : ∃ m, k = m + 1 := ⟨k - 1, by omega⟩
    simp only [timesynclaw25_ClusterIndependent.l0]
    rw [if_neg (by omega)]
    exact hc k (by omega) y (by omega) hm
  | succ n ih =>
    intro y i k hi hy hm hk
    obtain ⟨k, rfl⟩ : ∃ m, k = m + 1 := ⟨k - 1, by omega⟩
    simp only [timesynclaw25_ClusterIndependent.l0]
    have hw : wrap64 (i + turn) = i + turn := Num.w64_in (by omega) (by omega)
    have hw1 : wrap64 (i + 1) = i + 1 := Num.w64_in (by omega) (by omega)
    have hp : (0 : Int) < x.length := by omega
    have hm0 : 0 ≤ Int.tmod (i + turn) (x.length : Int) := by rw [Int.tmod_eq_emod_of_nonneg (by omega)]; exact Int.emod_nonneg _ (by omega)
    have hm1 : Int.tmod (i + turn) (x.length : Int) < (x.length : Int) := by rw [Int.tmod_eq_emod_of_nonneg (by omega)]; exact Int.emod_lt_of_pos _ hp
    rw [hw, hw1]
    generalize Int.tmod (i + turn) (x.length : Int) = q at *
    rw [if_pos (by omega), if_neg (by omega), if_pos hm0, if_pos hm1, Option.bind_some, if_pos (by simp; omega)]
    refine ih _ (i + 1) k (by omega) (by simp; omega) (fun p hp2 => ?_) (by omega)
    rw [List.mem_append, List.mem_singleton] at hp2
    rcases hp2 with h | h
    · rw [h]
      exact rd_mem hm0 hm1
    · exact hm p h

theorem same_refl (x : List S34) (h12 : x.length ≤ 30) (k : Nat) (hk : 40 ≤ k) : timesynclaw25_same.f k x x = some true := by
  have h : ∀ (n : Nat) (i : Int) (k : Nat), i + n = (x.length : Int) → 0 ≤ i → n + 1 ≤ k → timesynclaw25_same.l0 k x x i = some true := by
    intro n
    induction n with
    | zero =>
      intro i k hi h0 hk
      obtain ⟨k, rfl⟩ : ∃ m, k = m + 1 := ⟨k - 1, by omega⟩
      simp only [timesynclaw25_same.l0]
      rw [if_neg (by omega)]
    | succ n ih =>
      intro i k hi h0 hk
      obtain ⟨k, rfl⟩ : ∃ m, k = m + 1 := ⟨k - 1, by omega⟩
      simp only [timesynclaw25_same.l0]
      rw [if_pos (by omega), if_pos h0, if_pos (by omega), if_neg (by simp), Num.w64_in (by omega) (by omega)]
      exact ih (i + 1) k (by omega) (by omega) (by omega)
  unfold timesynclaw25_same.f
  rw [if_pos rfl]
  exact h x.length 0 k (by omega) (by omega) (by omega)

theorem Independent_true (l : List S34) (turn keep : Int) (h30 : l.length ≤ 30) : timesynclaw25_ClusterIndependent.f 1200 l turn keep = some true := by
  unfold timesynclaw25_ClusterIndependent.f
  rw [few_ok h30, Option.bind_some, if_pos rfl]
  have hstop : timesynclaw25_ClusterIndependent.j0 1200 l turn keep true = some true := by
    simp only [timesynclaw25_ClusterIndependent.j0]
    rw [if_pos trivial, awake_ok _ (by omega)]
    rfl
  by_cases hl : (l.length : Int) = 0
  · rw [if_pos hl]; exact hstop
  rw [if_neg hl]
  by_cases ht : turn < 0
  · rw [if_pos ht]; exact hstop
  rw [if_neg ht]
  by_cases ht2 : turn > 100
  · rw [decide_eq_true ht2]; exact hstop
  rw [decide_eq_false ht2]
  simp only [timesynclaw25_ClusterIndependent.j0]
  rw [if_neg (by decide)]
  refine ind_l0 l turn keep h30 (by omega) (by omega) 900 ?_ l.length [] 0 _ (by omega) (by simp) (fun p hp => by cases hp) (by omega)
  intro k hk m hml hms
  have hstop2 : timesynclaw25_ClusterIndependent.j2 k l keep m true = some true := by
    obtain ⟨k, rfl⟩ : ∃ m, k = m + 1 := ⟨k - 1, by omega⟩
    simp only [timesynclaw25_ClusterIndependent.j2]
    rw [if_pos trivial, awake_ok _ (by omega)]
    rfl
  by_cases hv : valid l
  · rw [Check_ok hv k (by omega), Option.bind_some, if_pos rfl]
    by_cases hu : valid m
    · rw [Check_ok hu k (by omega), Option.bind_some]
      show timesynclaw25_ClusterIndependent.j2 k l keep m false = some true
      have hperm : m.Perm l := perm_of_sub m l hu.2.2 hms (by omega)
      have hs : isort m = isort l := isort_perm_eq hperm hu.2.2
      obtain ⟨k, rfl⟩ : ∃ m, k = m + 2 := ⟨k - 2, by omega⟩
      simp only [timesynclaw25_ClusterIndependent.j2]
      have h12 := hv.1
      have hil := isort_length l
      rw [if_neg (by decide)]
      by_cases hk1 : 1 ≤ keep
      · rw [Prune_ok hv keep hk1 _ (by omega), Option.bind_some, Prune_ok hu keep hk1 _ (by omega), Option.bind_some, hs]
        have hsub := pr_sub keep 12 (isort l)
        have hdone := pr_done keep hk1 12 (isort l) (by omega) (by omega) (fun p hp => (hv.2.1 p ((isort_perm l).subset hp)).2.1)
        have hst : strict (pr keep 12 (isort l)) := sub_strict hsub (isort_strict l hv.2.2)
        have hva : valid (pr keep 12 (isort l)) := sub_valid hsub (valid_perm (isort_perm l).symm hv)
        show (timesynclaw25_same.f (k + 1) (pr keep 12 (isort l)) (pr keep 12 (isort l))).bind _ = _
        have hpa : pr keep 12 (isort (pr keep 12 (isort l))) = pr keep 12 (isort l) := by rw [isort_same _ hst]; exact pr_same keep 12 _ hdone
        generalize pr keep 12 (isort l) = a at *
        rw [same_refl a (by have := hva.1; omega) _ (by omega), Option.bind_some, if_pos rfl, if_pos rfl, Order_ok hv _ (by omega), Option.bind_some, Order_ok hu _ (by omega), Option.bind_some, hs, same_refl _ (by omega) _ (by omega), Option.bind_some]
        show timesynclaw25_ClusterIndependent.j3 (k + 1) keep a 0 false = some true
        simp only [timesynclaw25_ClusterIndependent.j3]
        rw [if_neg (by decide), if_pos trivial, Prune_ok hva keep hk1 _ (by omega), Option.bind_some, hpa]
        show (timesynclaw25_same.f k a a).bind _ = _
        rw [same_refl a (by have := hva.1; omega) _ (by omega), Option.bind_some, if_pos rfl, if_pos rfl, awake_ok _ (by omega)]
        rfl
      · rw [Prune_keep hv keep hk1 _ (by omega), Option.bind_some, Prune_keep hu keep hk1 _ (by omega), Option.bind_some]
        show (timesynclaw25_same.f (k + 1) [] []).bind _ = _
        rw [same_refl [] (by simp) _ (by omega), Option.bind_some, if_pos rfl, if_pos rfl, Order_ok hv _ (by omega), Option.bind_some, Order_ok hu _ (by omega), Option.bind_some, hs, same_refl _ (by omega) _ (by omega), Option.bind_some]
        show timesynclaw25_ClusterIndependent.j3 (k + 1) keep [] 3 false = some true
        simp only [timesynclaw25_ClusterIndependent.j3]
        rw [if_neg (by decide), if_neg (by decide), if_pos trivial, if_pos (by omega), awake_ok _ (by omega)]
        rfl
    · obtain ⟨e, h1, h2⟩ := Check_no hu k (by omega)
      rw [h1, Option.bind_some, show (e != 0) = true by simpa using h2]
      exact hstop2
  · obtain ⟨e, h1, h2⟩ := Check_no hv k (by omega)
    rw [h1, Option.bind_some, if_neg h2]
    exact hstop2

theorem ClusterIndependent_walk (A : Option Addr) (len cap : Nat) (l : List (Int × Int × Int × Int × Int)) (turn keep : Int) (w : World) (hl : Rk.Row w A len cap l) (w1 : (Lit.int .i64 turn).wf = true) (w2 : (Lit.int .i64 keep).wf = true) :
    Calls Try.prog 6 #[.slice A len cap, .int .i64 turn, .int .i64 keep] w fun e w' => e = .returned (.bool true) ∧ Below w.heap.size w w' := by
  by_cases h : 30 < len
  · go_enter Try.func6, Try.ntmps6
    go_wp2_with (first
      | (go_at_call 8
         with_reducible refine Calls.mono (few_big _ _ _ _ h) ?_
         rintro e w1 ⟨rfl, rfl⟩)
      | (go_at_call 9
         with_reducible refine Calls.mono (awake_any _) ?_
         rintro e w5 ⟨rfl, b5⟩))
    all_goals (go_ret; exact ⟨rfl, b5⟩)
  · have hr := row_reads hl (by omega)
    have e : (conv l).length = len := by rw [conv_length, hl.cnt]
    have hc := timesynclaw25_ClusterIndependent.calls 1200 A cap (conv l) turn keep true w hr (by rw [e]; exact hl.le) (Independent_true (conv l) turn keep (by omega))
    rwa [e] at hc
end Go.Proofs.Ytbcmfmlbagjdoaa.Cq
