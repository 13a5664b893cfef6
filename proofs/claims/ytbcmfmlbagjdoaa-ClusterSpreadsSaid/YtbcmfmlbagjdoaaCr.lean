/- What Prune returns, in plain Lean. -/
import Derived.Test.YtbcmfmlbagjdoaaCp
import Derived.Test.YtbcmfmlbagjdoaaPAllx34
import Derived.Test.YtbcmfmlbagjdoaaPAllx35
namespace Go.Proofs.Ytbcmfmlbagjdoaa.Cq
open Go Go.RowKit Go.Proofs.Ytbcmfmlbagjdoaa.PAll Go.Proofs.Ytbcmfmlbagjdoaa.Ca Go.Proofs.YtbcmfmlbagjdoaaW.PrintWords Go.Proofs.YtbcmfmlbagjdoaaW.PrintMore
set_option linter.unusedVariables false
set_option linter.unusedSimpArgs false

theorem up {α : Type} {g : Nat → Option α} (hm : ∀ k, LeO (g k) (g (k + 1))) {k m : Nat} {a : α} (ha : g k = some a) (h : k ≤ m) : g m = some a := by
  have u : ∀ n, g (k + n) = some a := by
    intro n
    induction n with
    | zero => exact ha
    | succ n ih => exact hm _ _ ih
  have := u (m - k)
  rwa [show k + (m - k) = m by omega] at this
theorem awake_ok (k : Nat) (hk : 70 ≤ k) : timesynclaw25_awake.f k = some true := up (fun k => timesynclaw25_awake.mono k) aw_all hk

theorem mn_le (a b : Int) : mn a b ≤ a ∧ mn a b ≤ b := by unfold mn; split <;> omega
theorem mn_or (a b : Int) : mn a b = a ∨ mn a b = b := by unfold mn; split <;> simp
/-- what the first n of a list tell: the place of the greatest spread, that spread, the least jitter -/
def scanP (x : List S34) : Nat → Int × Int × Int
  | 0 => (0, -1, (rd_T34 x 0).f3)
  | n + 1 => if sp x n ≥ (scanP x n).2.1 then ((n : Int), sp x n, mn (scanP x n).2.2 (rd_T34 x n).f3) else ((scanP x n).1, (scanP x n).2.1, mn (scanP x n).2.2 (rd_T34 x n).f3)
theorem scan_most (x : List S34) : ∀ (n : Nat) (i : Nat), i < n → sp x (i : Int) ≤ (scanP x n).2.1
  | 0, i, h => by omega
  | n + 1, i, h => by
    have ih := scan_most x n
    simp only [scanP]
    by_cases hc : sp x n ≥ (scanP x n).2.1
    · rw [if_pos hc]
      by_cases hi : i = n
      · subst hi; exact Int.le_refl _
      · have := ih i (by omega); show sp x i ≤ sp x n; omega
    · rw [if_neg hc]
      by_cases hi : i = n
      · subst hi; show sp x i ≤ (scanP x i).2.1; omega
      · exact ih i (by omega)
theorem scan_least (x : List S34) : ∀ (n : Nat) (i : Nat), i < n → (scanP x n).2.2 ≤ (rd_T34 x (i : Int)).f3
  | 0, i, h => by omega
  | n + 1, i, h => by
    have ih := scan_least x n
    have e : (scanP x (n + 1)).2.2 = mn (scanP x n).2.2 (rd_T34 x n).f3 := by simp only [scanP]; split <;> rfl
    have hm := mn_le (scanP x n).2.2 (rd_T34 x n).f3
    rw [e]
    by_cases hi : i = n
    · subst hi; exact hm.2
    · have := ih i (by omega); omega
theorem sp_pos {x : List S34} (h : fine x) (i : Int) (h0 : 0 ≤ i) (h1 : i < (x.length : Int)) : 0 ≤ sp x i := (sp_tells h i h0 h1).2.1
theorem scan_at {x : List S34} (hf : fine x) : ∀ (n : Nat), 0 < n → n ≤ x.length → 0 ≤ (scanP x n).1 ∧ (scanP x n).1 < n ∧ (scanP x n).2.1 = sp x (scanP x n).1
  | 0, h, _ => by omega
  | n + 1, _, hl => by
    simp only [scanP]
    by_cases hc : sp x n ≥ (scanP x n).2.1
    · rw [if_pos hc]
      exact ⟨by show (0 : Int) ≤ n; omega, by show (n : Int) < _; omega, rfl⟩
    · rw [if_neg hc]
      by_cases hn : n = 0
      · subst hn
        exfalso
        have := sp_pos hf 0 (by omega) (by omega)
        apply hc
        show (-1 : Int) ≤ _
        simp only [Int.natCast_zero]
        omega
      · have ih := scan_at hf n (by omega) (by omega)
        exact ⟨ih.1, by show (scanP x n).1 < _; have := ih.2.1; omega, ih.2.2⟩
def worst (x : List S34) : Int := (scanP x x.length).1
def most (x : List S34) : Int := (scanP x x.length).2.1
def least (x : List S34) : Int := (scanP x x.length).2.2
/-- pruning -/
def pr (keep : Int) : Nat → List S34 → List S34
  | 0, x => x
  | n + 1, x => if (x.length : Int) > keep then (if most x ≤ least x then x else pr keep n (x.eraseIdx (worst x).toNat)) else x

theorem l1_tells {x : List S34} (hf : fine x) (keep : Int) (r : Option (List S34 × Int)) (K : Nat)
    (hc : ∀ k, K ≤ k → (if most x ≤ least x then some (x, 0) else (api_Cand_26.f x (worst x) (worst x + 1)).bind fun t => cluster_Prune.l0 k keep t) = r) :
    ∀ (n i k : Nat), i + n = x.length → K + n + 1 ≤ k → cluster_Prune.l1 k keep x (scanP x i).1 (scanP x i).2.1 (scanP x i).2.2 x (x.length : Int) (i : Int) = r := by
  have h12 := hf.2.1
  intro n
  induction n with
  | zero =>
    intro i k hi hk
    obtain ⟨k, rfl⟩ : ∃ m, k = m + 1 := ⟨k - 1, by omega⟩
    obtain rfl : i = x.length := by omega
    simp only [cluster_Prune.l1]
    rw [if_neg (by omega), ← hc k (by omega)]
    have ha := scan_at hf x.length (by have := hf.1; omega) (Nat.le_refl _)
    have hw : wrap64 ((scanP x x.length).1 + 1) = worst x + 1 := Num.w64_in (by omega) (by omega)
    rw [hw]
    rfl
  | succ n ih =>
    intro i k hi hk
    obtain ⟨k, rfl⟩ : ∃ m, k = m + 1 := ⟨k - 1, by omega⟩
    simp only [cluster_Prune.l1]
    have hs := (sp_tells hf (i : Int) (by omega) (by omega)).1
    have hw : wrap64 ((i : Int) + 1) = ((i + 1 : Nat) : Int) := by rw [Num.w64_in (by omega) (by omega)]; omega
    rw [if_pos (by omega), if_pos (by omega), if_pos (by omega), hs, Option.bind_some, hw]
    have h2 := ih (i + 1) k (by omega) (by omega)
    by_cases hcnd : sp x i ≥ (scanP x i).2.1
    · rw [if_pos hcnd]
      simp only [scanP] at h2
      rw [if_pos hcnd] at h2
      exact h2
    · rw [if_neg hcnd]
      simp only [scanP] at h2
      rw [if_neg hcnd] at h2
      exact h2
theorem erase_fine {x : List S34} (hf : fine x) (i : Nat) (h : i < x.length) (h3 : 3 ≤ x.length) : fine (x.eraseIdx i) :=
  ⟨by rw [List.length_eraseIdx, if_pos h]; omega, by rw [List.length_eraseIdx, if_pos h]; have := hf.2.1; omega, fun p hp => hf.2.2 p (List.mem_of_mem_eraseIdx hp)⟩
theorem l0_tells (keep : Int) (hk1 : 1 ≤ keep) : ∀ (n : Nat) (x : List S34) (k : Nat), x.length ≤ n → x.length ≤ 12 → (∀ p ∈ x, okO p) → 30 * n + 2 ≤ k → cluster_Prune.l0 k keep x = some (pr keep n x, 0) := by
  intro n
  induction n with
  | zero =>
    intro x k hx h12 ho hk
    obtain ⟨k, rfl⟩ : ∃ m, k = m + 1 := ⟨k - 1, by omega⟩
    simp only [cluster_Prune.l0]
    rw [if_neg (by omega)]
    rfl
  | succ n ih =>
    intro x k hx h12 ho hk
    obtain ⟨k, rfl⟩ : ∃ m, k = m + 1 := ⟨k - 1, by omega⟩
    simp only [cluster_Prune.l0, pr]
    by_cases hl : (x.length : Int) > keep
    · have hf : fine x := ⟨by omega, h12, ho⟩
      rw [if_pos hl, if_pos (by omega), if_pos hl]
      have ha := scan_at hf x.length (by omega) (Nat.le_refl _)
      refine l1_tells hf keep _ (30 * n + 2) ?_ x.length 0 k (by omega) (by omega)
      intro k' hk'
      by_cases hm : most x ≤ least x
      · rw [if_pos hm, if_pos hm]
      · rw [if_neg hm, if_neg hm]
        have hw0 : 0 ≤ worst x := ha.1
        have hw1 : worst x < (x.length : Int) := ha.2.1
        unfold api_Cand_26.f
        rw [if_pos ⟨hw0, hw1, rfl⟩, Option.bind_some]
        exact ih _ k' (by rw [List.length_eraseIdx, if_pos (by omega)]; omega) (by rw [List.length_eraseIdx, if_pos (by omega)]; omega) (fun p hp => ho p (List.mem_of_mem_eraseIdx hp)) hk'
    · rw [if_neg hl, if_neg hl]

/-- Prune of a valid list -/
theorem Prune_ok {l : List S34} (h : valid l) (keep : Int) (hk1 : 1 ≤ keep) (k : Nat) (hk : 400 ≤ k) : cluster_Prune.f k l keep = some (pr keep 12 (isort l), 0) := by
  unfold cluster_Prune.f
  rw [Check_ok h k (by omega), Option.bind_some, if_pos rfl, if_neg (by omega), ordered_tells h, Option.bind_some]
  have hi := isort_perm l
  exact l0_tells keep hk1 12 _ k (by rw [isort_length]; exact h.1) (by rw [isort_length]; exact h.1) (fun p hp => (h.2.1 p (hi.subset hp)).2.1) (by omega)
theorem Prune_keep {l : List S34} (h : valid l) (keep : Int) (hk1 : ¬ 1 ≤ keep) (k : Nat) (hk : 400 ≤ k) : cluster_Prune.f k l keep = some ([], 3) := by
  unfold cluster_Prune.f
  rw [Check_ok h k (by omega), Option.bind_some, if_pos rfl, if_pos (by omega)]

/-- what is left is a part of the list, in its order -/
theorem pr_sub (keep : Int) : ∀ (n : Nat) (x : List S34), (pr keep n x).Sublist x
  | 0, x => List.Sublist.refl _
  | n + 1, x => by
    unfold pr
    split
    · split
      · exact List.Sublist.refl _
      · exact (pr_sub keep n _).trans (List.eraseIdx_sublist _ _)
    · exact List.Sublist.refl _
theorem pr_length (keep : Int) : ∀ (n : Nat) (x : List S34), (x.length : Int) ≤ (pr keep n x).length ∨ keep ≤ ((pr keep n x).length : Int)
  | 0, x => by left; exact Int.le_refl _
  | n + 1, x => by
    unfold pr
    split
    · rename_i h
      split
      · left; exact Int.le_refl _
      · right
        have e : x.length - 1 ≤ (x.eraseIdx (worst x).toNat).length := by rw [List.length_eraseIdx]; split <;> omega
        rcases pr_length keep n (x.eraseIdx (worst x).toNat) with h2 | h2
        · omega
        · exact h2
    · left; exact Int.le_refl _
theorem pr_done (keep : Int) (hk1 : 1 ≤ keep) : ∀ (n : Nat) (x : List S34), x.length ≤ n → x.length ≤ 12 → (∀ p ∈ x, okO p) → ((pr keep n x).length : Int) ≤ keep ∨ most (pr keep n x) ≤ least (pr keep n x)
  | 0, x, h, _, _ => by left; unfold pr; omega
  | n + 1, x, h, h12, ho => by
    unfold pr
    split
    · rename_i hl
      split
      · rename_i hm; right; exact hm
      · have hf : fine x := ⟨by omega, h12, ho⟩
        have ha := scan_at hf x.length (by omega) (Nat.le_refl _)
        have hw0 : 0 ≤ worst x := ha.1
        have hw1 : worst x < (x.length : Int) := ha.2.1
        exact pr_done keep hk1 n _ (by rw [List.length_eraseIdx, if_pos (by omega)]; omega) (by rw [List.length_eraseIdx, if_pos (by omega)]; omega) (fun p hp => ho p (List.mem_of_mem_eraseIdx hp))
    · left; omega
theorem pr_same (keep : Int) (n : Nat) (x : List S34) (h : (x.length : Int) ≤ keep ∨ most x ≤ least x) : pr keep n x = x := by
  cases n with
  | zero => rfl
  | succ n =>
    unfold pr
    rcases h with h | h
    · rw [if_neg (by omega)]
    · split
      · rfl
      · rfl
theorem sub_valid {l m : List S34} (h : m.Sublist l) (k : valid l) : valid m :=
  ⟨Nat.le_trans h.length_le k.1, fun p hp => k.2.1 p (h.subset hp), List.Pairwise.sublist h k.2.2⟩
theorem sub_strict {l m : List S34} (h : m.Sublist l) (k : strict l) : strict m := List.Pairwise.sublist h k
end Go.Proofs.Ytbcmfmlbagjdoaa.Cq
