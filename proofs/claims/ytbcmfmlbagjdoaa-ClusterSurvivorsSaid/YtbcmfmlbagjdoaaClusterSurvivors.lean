/- ClusterSurvivors. -/
import Derived.Test.YtbcmfmlbagjdoaaCu
import Derived.Test.YtbcmfmlbagjdoaaPAllx50
namespace Go.Proofs.Ytbcmfmlbagjdoaa.Cq
open Go Go.RowKit Go.Proofs.Ytbcmfmlbagjdoaa.PAll Go.Proofs.Ytbcmfmlbagjdoaa.Ca Go.Proofs.YtbcmfmlbagjdoaaW.PrintWords Go.Proofs.YtbcmfmlbagjdoaaW.PrintMore
set_option linter.unusedVariables false
set_option linter.unusedSimpArgs false

theorem rank_lt {x y : S34} (h : ltP x y) : timesynclaw25_rank.f x.f0 x.f1 x.f2 x.f3 x.f4 y.f0 y.f1 y.f2 y.f3 y.f4 = some 1 := by
  unfold timesynclaw25_rank.f
  unfold ltP at h
  by_cases h4 : x.f4 = y.f4
  · rw [if_pos h4]
    by_cases h2 : x.f2 = y.f2
    · rw [if_pos h2, if_pos (by omega)]
    · rw [if_neg h2, if_pos (by omega)]
  · rw [if_neg h4, if_pos (by omega)]
theorem strict_rd {o : List S34} (h : strict o) (i : Int) (h0 : 0 < i) (h1 : i < (o.length : Int)) : ltP (rd_T34 o (i - 1)) (rd_T34 o i) :=
  strict_get h (i - 1).toNat i.toNat _ _ (by omega) (rd_get o (i - 1) (by omega) (by omega)) (rd_get o i (by omega) h1)

theorem surv_l2 (x a : List S34) (keep i s : Int) (h0 : 0 ≤ i) (h1 : i < (a.length : Int)) (h12 : a.length ≤ 12) (hs : ∀ k, 250 ≤ k → cluster_Spread.f k a i = some s)
    (hle : (a.length : Int) > keep → ∀ j : Int, 0 ≤ j → j < (a.length : Int) → s ≤ (rd_T34 a j).f3) (K : Nat) (hK : 250 ≤ K)
    (hc : ∀ k, K ≤ k → timesynclaw25_ClusterSurvivors.l0 k x keep a (i + 1) = some true) :
    ∀ (n : Nat) (j : Int) (k : Nat), j + n = (a.length : Int) → 0 ≤ j → K + 2 * n + 2 ≤ k → timesynclaw25_ClusterSurvivors.l2 k x keep a i j = some true := by
  have hw : wrap64 (i + 1) = i + 1 := Num.w64_in (by omega) (by omega)
  intro n
  induction n with
  | zero =>
    intro j k hj hj0 hk
    obtain ⟨k, rfl⟩ : ∃ m, k = m + 2 := ⟨k - 2, by omega⟩
    simp only [timesynclaw25_ClusterSurvivors.l2]
    rw [if_neg (by omega)]
    simp only [timesynclaw25_ClusterSurvivors.j6]
    rw [if_neg (by decide), hw]
    exact hc k (by omega)
  | succ n ih =>
    intro j k hj hj0 hk
    obtain ⟨k, rfl⟩ : ∃ m, k = m + 2 := ⟨k - 2, by omega⟩
    simp only [timesynclaw25_ClusterSurvivors.l2]
    rw [if_pos (by omega)]
    simp only [timesynclaw25_ClusterSurvivors.j6]
    by_cases hl : (a.length : Int) > keep
    · have h3 := hle hl j hj0 (by omega)
      rw [if_pos (decide_eq_true hl), hs k (by omega), Option.bind_some, if_pos hj0, if_pos (by omega), if_neg (by omega), Num.w64_in (by omega) (by omega)]
      exact ih (j + 1) k (by omega) (by omega) (by omega)
    · rw [decide_eq_false hl, if_neg (by decide), hw]
      exact hc k (by omega)
theorem surv_l1 (x a : List S34) (keep i s : Int) (h0 : 0 ≤ i) (h1 : i < (a.length : Int)) (hx12 : x.length ≤ 12) (h12 : a.length ≤ 12) (hst : strict a) (hs : ∀ k, 250 ≤ k → cluster_Spread.f k a i = some s)
    (hle : (a.length : Int) > keep → ∀ j : Int, 0 ≤ j → j < (a.length : Int) → s ≤ (rd_T34 a j).f3) (K : Nat) (hK : 250 ≤ K)
    (hc : ∀ k, K ≤ k → timesynclaw25_ClusterSurvivors.l0 k x keep a (i + 1) = some true) :
    ∀ (n : Nat) (j : Int) (k : Nat) (fnd : Bool), j + n = (x.length : Int) → 0 ≤ j → K + n + 30 ≤ k → (fnd = true ∨ ∃ m, j ≤ m ∧ m < (x.length : Int) ∧ rd_T34 x m = rd_T34 a i) →
      timesynclaw25_ClusterSurvivors.l1 k x keep a i fnd j = some true := by
  intro n
  induction n with
  | zero =>
    intro j k fnd hj hj0 hk hf
    obtain ⟨k, rfl⟩ : ∃ m, k = m + 2 := ⟨k - 2, by omega⟩
    have hft : fnd = true := by
      rcases hf with h | ⟨m, a, b, _⟩
      · exact h
      · omega
    subst hft
    have hl2 : timesynclaw25_ClusterSurvivors.j4 (k + 1) x keep a i false = some true := by
      simp only [timesynclaw25_ClusterSurvivors.j4]
      rw [if_neg (by decide)]
      exact surv_l2 x a keep i s h0 h1 h12 hs hle K hK hc a.length 0 k (by omega) (by omega) (by omega)
    simp only [timesynclaw25_ClusterSurvivors.l1]
    rw [if_neg (by omega), if_pos trivial]
    by_cases hi : i > 0
    · have hw2 : wrap64 (i - 1) = i - 1 := Num.w64_in (by omega) (by omega)
      rw [if_pos hi, hw2, if_pos (by omega), if_pos (by omega), if_pos h0, if_pos h1, rank_lt (strict_rd hst i hi h1), Option.bind_some]
      exact hl2
    · rw [if_neg hi]
      exact hl2
  | succ n ih =>
    intro j k fnd hj hj0 hk hf
    obtain ⟨k, rfl⟩ : ∃ m, k = m + 1 := ⟨k - 1, by omega⟩
    simp only [timesynclaw25_ClusterSurvivors.l1]
    have hw : wrap64 (j + 1) = j + 1 := Num.w64_in (by omega) (by omega)
    rw [if_pos (by omega), hw]
    cases fnd with
    | true =>
      rw [if_pos rfl]
      exact ih (j + 1) k true (by omega) (by omega) (by omega) (Or.inl rfl)
    | false =>
      rw [if_neg (by decide), if_pos hj0, if_pos h0, if_pos h1]
      refine ih (j + 1) k _ (by omega) (by omega) (by omega) ?_
      rcases hf with h | ⟨m, a, b, c⟩
      · cases h
      · by_cases hm : m = j
        · subst hm
          left
          rw [c]
          simp
        · right
          exact ⟨m, by omega, b, c⟩
theorem surv_l0 (x a : List S34) (keep : Int) (hx12 : x.length ≤ 12) (h12 : a.length ≤ 12) (hst : strict a) (hm : ∀ p ∈ a, p ∈ x)
    (hs : ∀ i : Int, 0 ≤ i → i < (a.length : Int) → ∃ s, (∀ k, 250 ≤ k → cluster_Spread.f k a i = some s) ∧ ((a.length : Int) > keep → ∀ j : Int, 0 ≤ j → j < (a.length : Int) → s ≤ (rd_T34 a j).f3)) :
    ∀ (n : Nat) (i : Int) (k : Nat), i + n = (a.length : Int) → 0 ≤ i → 50 * n + 300 ≤ k → timesynclaw25_ClusterSurvivors.l0 k x keep a i = some true := by
  intro n
  induction n with
  | zero =>
    intro i k hi h0 hk
    obtain ⟨k, rfl⟩ : ∃ m, k = m + 1 := ⟨k - 1, by omega⟩
    simp only [timesynclaw25_ClusterSurvivors.l0]
    rw [if_neg (by omega), awake_ok k (by omega)]
    rfl
  | succ n ih =>
    intro i k hi h0 hk
    obtain ⟨k, rfl⟩ : ∃ m, k = m + 1 := ⟨k - 1, by omega⟩
    simp only [timesynclaw25_ClusterSurvivors.l0]
    rw [if_pos (by omega)]
    obtain ⟨m, ma, mb, mc⟩ := mem_rd (hm _ (rd_mem h0 (show i < (a.length : Int) by omega)))
    obtain ⟨s, s1, s2⟩ := hs i h0 (by omega)
    exact surv_l1 x a keep i s h0 (by omega) hx12 h12 hst s1 s2 (50 * n + 300) (by omega) (fun k hk => ih (i + 1) k (by omega) (by omega) hk) x.length 0 k false (by omega) (by omega) (by omega) (Or.inr ⟨m, ma, mb, mc⟩)

theorem Survivors_true (l : List S34) (keep : Int) (h30 : l.length ≤ 30) : timesynclaw25_ClusterSurvivors.f 1200 l keep = some true := by
  unfold timesynclaw25_ClusterSurvivors.f
  rw [few_ok h30, Option.bind_some, if_pos rfl]
  have hstop : timesynclaw25_ClusterSurvivors.j0 1200 l keep true = some true := by
    simp only [timesynclaw25_ClusterSurvivors.j0]
    rw [if_pos trivial, awake_ok _ (by omega)]
    rfl
  by_cases hv : valid l
  · rw [Check_ok hv _ (by omega), Option.bind_some, if_pos rfl]
    by_cases hk : keep < 1
    · rw [decide_eq_true hk]
      exact hstop
    · rw [decide_eq_false hk]
      simp only [timesynclaw25_ClusterSurvivors.j0]
      have h12 := hv.1
      have hsub := pr_sub keep 12 (isort l)
      have hlen := pr_length keep 12 (isort l)
      have hil := isort_length l
      have hdone := pr_done keep (by omega) 12 (isort l) (by omega) (by omega) (fun p hp => (hv.2.1 p ((isort_perm l).subset hp)).2.1)
      have hle := hsub.length_le
      have hmn := mn_le keep (l.length : Int)
      have hst : strict (pr keep 12 (isort l)) := sub_strict hsub (isort_strict l hv.2.2)
      have hva : valid (pr keep 12 (isort l)) := sub_valid hsub (valid_perm (isort_perm l).symm hv)
      have hmem : ∀ p ∈ pr keep 12 (isort l), p ∈ l := fun p hp => (isort_perm l).subset (hsub.subset hp)
      rw [if_neg (by decide), Prune_ok hv keep (by omega) _ (by omega), Option.bind_some, if_pos rfl]
      show (if ((pr keep 12 (isort l)).length : Int) > (l.length : Int) then _ else _) = _
      generalize pr keep 12 (isort l) = a at *
      rw [if_neg (by omega), decide_eq_false (show ¬ (a.length : Int) < mn keep (l.length : Int) by rcases hlen with h | h <;> omega)]
      simp only [timesynclaw25_ClusterSurvivors.j1]
      rw [if_neg (by decide)]
      refine surv_l0 l a keep h12 hva.1 hst hmem (fun i i0 i1 => ⟨_, fun k hk2 => Spread_ok hva i k hk2, fun hl j j0 j1 => ?_⟩) a.length 0 _ (by omega) (by omega) (by have := hva.1; omega)
      rw [if_pos ⟨by omega, i0, i1⟩]
      have h1 := scan_most a a.length i.toNat (by omega)
      have h2 := scan_least a a.length j.toNat (by omega)
      rw [show ((i.toNat : Nat) : Int) = i by omega] at h1
      rw [show ((j.toNat : Nat) : Int) = j by omega] at h2
      have h3 : most a ≤ least a := by
        rcases hdone with h | h
        · omega
        · exact h
      unfold most least at h3
      omega
  · obtain ⟨e, h1, h2⟩ := Check_no hv 1200 (by omega)
    rw [h1, Option.bind_some, if_neg h2]
    exact hstop

theorem ClusterSurvivors_walk (A : Option Addr) (len cap : Nat) (l : List (Int × Int × Int × Int × Int)) (keep : Int) (w : World) (hl : Rk.Row w A len cap l) (w1 : (Lit.int .i64 keep).wf = true) :
    Calls Try.prog 5 #[.slice A len cap, .int .i64 keep] w fun e w' => e = .returned (.bool true) ∧ Below w.heap.size w w' := by
  by_cases h : 30 < len
  · go_enter Try.func5, Try.ntmps5
    go_wp2_with (first
      | (go_at_call 8
         with_reducible refine Calls.mono (few_big _ _ _ _ h) ?_
         rintro e w1 ⟨rfl, rfl⟩)
      | (go_at_call 9
         with_reducible refine Calls.mono (awake_any _) ?_
         rintro e w5 ⟨rfl, b5⟩))
    all_goals (go_ret; exact ⟨rfl, b5⟩)
  · have hr := row_reads hl (by omega)
    have e : (conv l).length = len := by rw [conv_length, hl.cnt]
    have hc := timesynclaw25_ClusterSurvivors.calls 1200 A cap (conv l) keep true w hr (by rw [e]; exact hl.le) (Survivors_true (conv l) keep (by omega))
    rwa [e] at hc
end Go.Proofs.Ytbcmfmlbagjdoaa.Cq
