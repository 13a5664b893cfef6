/- ClusterSorted. -/
import Derived.Test.YtbcmfmlbagjdoaaCl
import Derived.Test.YtbcmfmlbagjdoaaPAllx49
namespace Go.Proofs.Ytbcmfmlbagjdoaa.Cq
open Go Go.RowKit Go.Proofs.Ytbcmfmlbagjdoaa.PAll Go.Proofs.Ytbcmfmlbagjdoaa.Ca Go.Proofs.YtbcmfmlbagjdoaaW.PrintWords Go.Proofs.YtbcmfmlbagjdoaaW.PrintMore
set_option linter.unusedVariables false
set_option linter.unusedSimpArgs false

theorem rank_lt {x y : S34} (h : ltP x y) : timesynclaw25_rank.f x.f0 x.f1 x.f2 x.f3 x.f4 y.f0 y.f1 y.f2 y.f3 y.f4 = some 1 := by
  unfold timesynclaw25_rank.f
  unfold ltP at h
  by_cases h4 : x.f4 = y.f4
  · rw [if_pos h4]
    by_cases h2 : x.f2 = y.f2
    · rw [if_pos h2, if_pos (by omega)]
    · rw [if_neg h2, if_pos (by omega)]
  · rw [if_neg h4, if_pos (by omega)]
theorem strict_rd {o : List S34} (h : strict o) (i : Int) (h0 : 0 < i) (h1 : i < (o.length : Int)) : ltP (rd_T34 o (i - 1)) (rd_T34 o i) :=
  strict_get h (i - 1).toNat i.toNat _ _ (by omega) (rd_get o (i - 1) (by omega) (by omega)) (rd_get o i (by omega) h1)

theorem sorted_l1 (x o : List S34) (i : Int) (h0 : 0 ≤ i) (h1 : i < (o.length : Int)) (h12 : x.length ≤ 12) (ho12 : o.length ≤ 12) (hs : strict o) (K : Nat)
    (hc : ∀ k, K ≤ k → timesynclaw25_ClusterSorted.l0 k x o (i + 1) = some true) :
    ∀ (n : Nat) (j : Int) (k : Nat) (fnd : Bool), j + n = (x.length : Int) → 0 ≤ j → K + n + 1 ≤ k → (fnd = true ∨ ∃ m, j ≤ m ∧ m < (x.length : Int) ∧ rd_T34 x m = rd_T34 o i) →
      timesynclaw25_ClusterSorted.l1 k x o i fnd j = some true := by
  intro n
  induction n with
  | zero =>
    intro j k fnd hj hj0 hk hf
    obtain ⟨k, rfl⟩ : ∃ m, k = m + 1 := ⟨k - 1, by omega⟩
    have hft : fnd = true := by
      rcases hf with h | ⟨m, a, b, _⟩
      · exact h
      · omega
    subst hft
    simp only [timesynclaw25_ClusterSorted.l1]
    rw [if_neg (by omega), if_pos trivial]
    have hw : wrap64 (i + 1) = i + 1 := Num.w64_in (by omega) (by omega)
    by_cases hi : i > 0
    · have hw2 : wrap64 (i - 1) = i - 1 := Num.w64_in (by omega) (by omega)
      rw [if_pos hi, hw2, if_pos (by omega), if_pos (by omega), if_pos h0, if_pos h1, rank_lt (strict_rd hs i hi h1), Option.bind_some, if_pos rfl, hw]
      exact hc k (by omega)
    · rw [if_neg hi, hw]
      exact hc k (by omega)
  | succ n ih =>
    intro j k fnd hj hj0 hk hf
    obtain ⟨k, rfl⟩ : ∃ m, k = m + 1 := ⟨k - 1, by omega⟩
    simp only [timesynclaw25_ClusterSorted.l1]
    have hw : wrap64 (j + 1) = j + 1 := Num.w64_in (by omega) (by omega)
    rw [if_pos (by omega), hw]
    cases fnd with
    | true =>
      rw [if_pos rfl]
      exact ih (j + 1) k true (by omega) (by omega) (by omega) (Or.inl rfl)
    | false =>
      rw [if_neg (by decide), if_pos hj0, if_pos h0, if_pos h1]
      refine ih (j + 1) k _ (by omega) (by omega) (by omega) ?_
      rcases hf with h | ⟨m, a, b, c⟩
      · cases h
      · by_cases hm : m = j
        · subst hm
          left
          rw [c]
          simp
        · right
          exact ⟨m, by omega, b, c⟩
theorem sorted_l0 (x o : List S34) (h12 : x.length ≤ 12) (ho12 : o.length ≤ 12) (hs : strict o) (hm : ∀ p ∈ o, p ∈ x) : ∀ (n : Nat) (i : Int) (k : Nat), i + n = (o.length : Int) → 0 ≤ i → 20 * n + 100 ≤ k →
    timesynclaw25_ClusterSorted.l0 k x o i = some true := by
  intro n
  induction n with
  | zero =>
    intro i k hi h0 hk
    obtain ⟨k, rfl⟩ : ∃ m, k = m + 1 := ⟨k - 1, by omega⟩
    simp only [timesynclaw25_ClusterSorted.l0]
    rw [if_neg (by omega), awake_ok k (by omega)]
    rfl
  | succ n ih =>
    intro i k hi h0 hk
    obtain ⟨k, rfl⟩ : ∃ m, k = m + 1 := ⟨k - 1, by omega⟩
    simp only [timesynclaw25_ClusterSorted.l0]
    rw [if_pos (by omega)]
    have hmem := hm _ (rd_mem h0 (show i < (o.length : Int) by omega))
    obtain ⟨m, a, b, c⟩ := mem_rd hmem
    exact sorted_l1 x o i h0 (by omega) h12 ho12 hs (20 * n + 100) (fun k hk => ih (i + 1) k (by omega) (by omega) hk) x.length 0 k false (by omega) (by omega) (by omega) (Or.inr ⟨m, a, b, c⟩)

theorem Sorted_true (l : List S34) (h30 : l.length ≤ 30) : timesynclaw25_ClusterSorted.f 1000 l = some true := by
  unfold timesynclaw25_ClusterSorted.f
  rw [few_ok h30, Option.bind_some, if_pos rfl]
  by_cases hv : valid l
  · rw [Order_ok hv _ (by omega), Option.bind_some, System_ok hv _ (by omega), Option.bind_some, Check_ok hv _ (by omega), Option.bind_some, if_pos rfl, isort_length, if_pos rfl]
    have h12 := hv.1
    have hrest : timesynclaw25_ClusterSorted.j0 1000 l (isort l) false = some true := by
      simp only [timesynclaw25_ClusterSorted.j0]
      rw [if_neg (by decide)]
      exact sorted_l0 l (isort l) h12 (by rw [isort_length]; exact h12) (isort_strict l hv.2.2) (fun p hp => (isort_perm l).subset hp) (isort l).length 0 _ (by omega) (by omega) (by rw [isort_length]; omega)
    by_cases hl : l.length = 0
    · rw [if_pos hl, if_neg (by decide), if_neg (by omega)]
      exact hrest
    · rw [if_neg hl, if_pos rfl, if_pos (by omega), if_pos (by omega)]
      simp only [bne_self_eq_false]
      exact hrest
  · obtain ⟨e, h1, h2⟩ := Check_no hv 1000 (by omega)
    rw [Order_no hv _ (by omega), Option.bind_some, System_no hv _ (by omega), Option.bind_some, h1, Option.bind_some, if_neg h2, if_pos (show (([] : List S34).length : Int) = 0 from rfl), if_pos (show ((0 : Int), false).1 = 0 from rfl), if_neg (show ¬ ((0 : Int), false).2 = true by decide), awake_ok _ (by omega)]
    rfl

theorem ClusterSorted_walk (A : Option Addr) (len cap : Nat) (l : List (Int × Int × Int × Int × Int)) (w : World) (hl : Rk.Row w A len cap l) :
    Calls Try.prog 4 #[.slice A len cap] w fun e w' => e = .returned (.bool true) ∧ Below w.heap.size w w' := by
  by_cases h : 30 < len
  · go_enter Try.func4, Try.ntmps4
    go_wp2_with (first
      | (go_at_call 8
         with_reducible refine Calls.mono (few_big _ _ _ _ h) ?_
         rintro e w1 ⟨rfl, rfl⟩)
      | (go_at_call 9
         with_reducible refine Calls.mono (awake_any _) ?_
         rintro e w5 ⟨rfl, b5⟩))
    all_goals (go_ret; exact ⟨rfl, b5⟩)
  · have hr := row_reads hl (by omega)
    have e : (conv l).length = len := by rw [conv_length, hl.cnt]
    have hc := timesynclaw25_ClusterSorted.calls 1000 A cap (conv l) true w hr (by rw [e]; exact hl.le) (Sorted_true (conv l) (by omega))
    rwa [e] at hc
end Go.Proofs.Ytbcmfmlbagjdoaa.Cq
