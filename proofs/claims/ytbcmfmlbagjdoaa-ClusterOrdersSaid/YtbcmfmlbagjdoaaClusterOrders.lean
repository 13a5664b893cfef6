/- ClusterOrders. -/
import Derived.Test.YtbcmfmlbagjdoaaPAllx3
import Derived.Test.YtbcmfmlbagjdoaaPAllx26
import Derived.Test.YtbcmfmlbagjdoaaPAllx32
import Derived.Test.YtbcmfmlbagjdoaaCs
import Derived.Test.YtbcmfmlbagjdoaaPAllx34
import Derived.Test.YtbcmfmlbagjdoaaPAllx35
import Derived.Test.YtbcmfmlbagjdoaaOpenRows5
import Derived.Test.YtbcmfmlbagjdoaaPAllx2
import Derived.Test.YtbcmfmlbagjdoaaPAllx47
namespace Go.Proofs.Ytbcmfmlbagjdoaa.Cq
open Go Go.RowKit Go.Proofs.Ytbcmfmlbagjdoaa.PAll Go.Proofs.Ytbcmfmlbagjdoaa.Ca Go.Proofs.YtbcmfmlbagjdoaaW.PrintWords Go.Proofs.YtbcmfmlbagjdoaaW.PrintMore
set_option linter.unusedVariables false
set_option linter.unusedSimpArgs false

/-- a candidate within its bounds -/
def okF (p : S34) : Prop := (0 ≤ p.f0 ∧ p.f0 ≤ 2147483647) ∧ (-4503599627370496 ≤ p.f1 ∧ p.f1 ≤ 4503599627370496) ∧ (0 ≤ p.f2 ∧ p.f2 ≤ 9007199254740992) ∧ (0 ≤ p.f3 ∧ p.f3 ≤ 9007199254740992) ∧ (1 ≤ p.f4 ∧ p.f4 ≤ 16)
def valid (l : List S34) : Prop := l.length ≤ 12 ∧ (∀ p ∈ l, okF p) ∧ ids l
theorem rd_get (l : List S34) (i : Int) (h0 : 0 ≤ i) (h1 : i < (l.length : Int)) : l[i.toNat]? = some (rd_T34 l i) := by
  have hi : i.toNat < l.length := by omega
  unfold rd_T34
  rw [List.getD_eq_getElem?_getD, List.getElem?_eq_getElem hi]; rfl
theorem rd_mem {l : List S34} {i : Int} (h0 : 0 ≤ i) (h1 : i < (l.length : Int)) : rd_T34 l i ∈ l := List.mem_of_getElem? (rd_get l i h0 h1)
theorem rd_of {l : List S34} {i : Nat} {x : S34} (h : l[i]? = some x) : rd_T34 l (i : Int) = x := by
  unfold rd_T34
  rw [List.getD_eq_getElem?_getD, show ((i : Int)).toNat = i by omega, h]; rfl
theorem mem_rd {l : List S34} {p : S34} (h : p ∈ l) : ∃ i : Int, 0 ≤ i ∧ i < (l.length : Int) ∧ rd_T34 l i = p := by
  obtain ⟨i, hi⟩ := List.mem_iff_getElem?.1 h
  exact ⟨(i : Int), by omega, by have := (List.getElem?_eq_some_iff.1 hi).1; omega, rd_of hi⟩
theorem rd_take (l : List S34) (i j : Int) (h0 : 0 ≤ j) (h1 : j < i) : rd_T34 (l.take i.toNat) j = rd_T34 l j := by
  unfold rd_T34
  rw [List.getD_eq_getElem?_getD, List.getD_eq_getElem?_getD, List.getElem?_take, if_pos (by omega)]
theorem ids_at {l : List S34} : ids l ↔ ∀ j : Int, 0 ≤ j → j < (l.length : Int) → ∀ m : Int, 0 ≤ m → m < j → (rd_T34 l m).f0 ≠ (rd_T34 l j).f0 := by
  constructor
  · intro h j h0 h1 m h2 h3
    have e1 := rd_get l j h0 h1
    have e2 := rd_get l m h2 (by omega)
    obtain ⟨k1, g1⟩ := List.getElem?_eq_some_iff.1 e1
    obtain ⟨k2, g2⟩ := List.getElem?_eq_some_iff.1 e2
    have := List.pairwise_iff_getElem.1 h m.toNat j.toNat k2 k1 (by omega)
    rwa [g1, g2] at this
  · intro h
    refine List.pairwise_iff_getElem.2 fun i j hi hj hij => ?_
    have := h (j : Int) (by omega) (by omega) (i : Int) (by omega) (by omega)
    rwa [rd_of (List.getElem?_eq_getElem hi), rd_of (List.getElem?_eq_getElem hj)] at this

theorem step_ok (k : Nat) (x : List S34) (i : Int) (h0 : 0 ≤ i) (h1 : i < (x.length : Int)) (h : okF (rd_T34 x i)) :
    choose_Check.l0 (k + 1) x x (x.length : Int) i = choose_Check.j1 k x i x (x.length : Int) i false (rd_T34 x i).f0 (rd_T34 x i).f1 (rd_T34 x i).f2 (rd_T34 x i).f3 (rd_T34 x i).f4 := by
  simp only [choose_Check.l0]
  rw [if_pos h1, if_pos h0, if_pos h1]
  generalize rd_T34 x i = p at *
  unfold okF at h
  rw [if_neg (by omega), if_neg (by omega), if_neg (by omega), if_neg (by omega), if_neg (by omega), if_neg (by omega), if_neg (by omega), if_neg (by omega), if_neg (by omega), decide_eq_false (by omega)]
theorem step_bad (k : Nat) (x : List S34) (i : Int) (h0 : 0 ≤ i) (h1 : i < (x.length : Int)) (h : ¬ okF (rd_T34 x i)) :
    choose_Check.l0 (k + 2) x x (x.length : Int) i = some 3 := by
  simp only [choose_Check.l0]
  rw [if_pos h1, if_pos h0, if_pos h1]
  generalize rd_T34 x i = p at *
  unfold okF at h
  by_cases a0 : p.f0 < 0
  · rw [if_pos a0]; simp [choose_Check.j1]
  rw [if_neg a0]
  by_cases a1 : p.f0 > 2147483647
  · rw [if_pos a1]; simp [choose_Check.j1]
  rw [if_neg a1]
  by_cases a2 : p.f1 < (-4503599627370496)
  · rw [if_pos a2]; simp [choose_Check.j1]
  rw [if_neg a2]
  by_cases a3 : p.f1 > 4503599627370496
  · rw [if_pos a3]; simp [choose_Check.j1]
  rw [if_neg a3]
  by_cases a4 : p.f2 < 0
  · rw [if_pos a4]; simp [choose_Check.j1]
  rw [if_neg a4]
  by_cases a5 : p.f2 > 9007199254740992
  · rw [if_pos a5]; simp [choose_Check.j1]
  rw [if_neg a5]
  by_cases a6 : p.f3 < 0
  · rw [if_pos a6]; simp [choose_Check.j1]
  rw [if_neg a6]
  by_cases a7 : p.f3 > 9007199254740992
  · rw [if_pos a7]; simp [choose_Check.j1]
  rw [if_neg a7]
  by_cases a8 : p.f4 < 1
  · rw [if_pos a8]; simp [choose_Check.j1]
  rw [if_neg a8]
  have a9 : p.f4 > 16 := by omega
  rw [decide_eq_true a9]
  simp [choose_Check.j1]

theorem scan (x : List S34) (i : Int) (h0 : 0 ≤ i) (h1 : i < (x.length : Int)) (h12 : x.length ≤ 12) (R : Prop) (K : Nat) (y1 y2 y3 y4 : Int)
    (hc : ∀ k, K ≤ k → ∃ e, choose_Check.l0 k x x (x.length : Int) (i + 1) = some e ∧ (e = 0 ↔ R)) :
    ∀ (n : Nat) (j : Int) (k : Nat), j + n = i → 0 ≤ j → K + n + 1 ≤ k →
      ∃ e, choose_Check.l1 k x x (x.length : Int) i (x.take i.toNat) ((x.take i.toNat).length : Int) j (rd_T34 x i).f0 y1 y2 y3 y4 = some e ∧ (e = 0 ↔ (∀ m, j ≤ m → m < i → (rd_T34 x m).f0 ≠ (rd_T34 x i).f0) ∧ R) := by
  have hl : ((x.take i.toNat).length : Int) = i := by rw [List.length_take]; omega
  rw [hl]
  intro n
  induction n with
  | zero =>
    intro j k hj hj0 hk
    obtain ⟨k, rfl⟩ : ∃ m, k = m + 1 := ⟨k - 1, by omega⟩
    simp only [choose_Check.l1]
    rw [if_neg (by omega), Num.w64_in (by omega) (by omega)]
    obtain ⟨e, he, hR⟩ := hc k (by omega)
    exact ⟨e, he, hR.trans ⟨fun h => ⟨fun m a b => by omega, h⟩, fun h => h.2⟩⟩
  | succ n ih =>
    intro j k hj hj0 hk
    obtain ⟨k, rfl⟩ : ∃ m, k = m + 1 := ⟨k - 1, by omega⟩
    simp only [choose_Check.l1]
    rw [if_pos (by omega), if_pos hj0, if_pos (by omega), rd_take x i j hj0 (by omega)]
    by_cases he : (rd_T34 x j).f0 = (rd_T34 x i).f0
    · rw [if_pos he]
      exact ⟨10, rfl, by constructor; · intro h; cases h
                         · intro h; exact absurd he (h.1 j (by omega) (by omega))⟩
    · rw [if_neg he, Num.w64_in (by omega) (by omega)]
      obtain ⟨e, h2, h3⟩ := ih (j + 1) k (by omega) (by omega) (by omega)
      refine ⟨e, h2, h3.trans ⟨fun h => ⟨fun m a b => ?_, h.2⟩, fun h => ⟨fun m a b => h.1 m (by omega) b, h.2⟩⟩⟩
      by_cases hm : m = j
      · subst hm; exact he
      · exact h.1 m (by omega) b

theorem check_from (x : List S34) (h12 : x.length ≤ 12) : ∀ (n : Nat) (i : Int) (k : Nat), i + n = (x.length : Int) → 0 ≤ i → 20 * n + 1 ≤ k →
    ∃ e, choose_Check.l0 k x x (x.length : Int) i = some e ∧ (e = 0 ↔ ∀ j, i ≤ j → j < (x.length : Int) → okF (rd_T34 x j) ∧ ∀ m, 0 ≤ m → m < j → (rd_T34 x m).f0 ≠ (rd_T34 x j).f0) := by
  intro n
  induction n with
  | zero =>
    intro i k hi h0 hk
    obtain ⟨k, rfl⟩ : ∃ m, k = m + 1 := ⟨k - 1, by omega⟩
    simp only [choose_Check.l0]
    rw [if_neg (by omega)]
    exact ⟨0, rfl, fun _ j a b => by omega, fun _ => rfl⟩
  | succ n ih =>
    intro i k hi h0 hk
    obtain ⟨k, rfl⟩ : ∃ m, k = m + 2 := ⟨k - 2, by omega⟩
    by_cases ho : okF (rd_T34 x i)
    · rw [step_ok (k + 1) x i h0 (by omega) ho]
      simp only [choose_Check.j1]
      rw [if_neg (by decide), if_pos h0, if_pos (by omega)]
      show ∃ e, choose_Check.l1 k x x (x.length : Int) i (x.take i.toNat) ((x.take i.toNat).length : Int) 0 (rd_T34 x i).f0 _ _ _ _ = some e ∧ _
      obtain ⟨e, h2, h3⟩ := scan x i h0 (by omega) h12 _ (20 * n + 1) _ _ _ _ (fun k hk => ih (i + 1) k (by omega) (by omega) hk) i.toNat 0 k (by omega) (by omega) (by omega)
      refine ⟨e, h2, h3.trans ⟨fun h j a b => ?_, fun h => ⟨fun m a b => (h i (by omega) (by omega)).2 m a b, fun j a b => h j (by omega) b⟩⟩⟩
      by_cases hj : j = i
      · subst hj; exact ⟨ho, h.1⟩
      · exact h.2 j (by omega) b
    · rw [step_bad k x i h0 (by omega) ho]
      exact ⟨3, rfl, by constructor; · intro h; cases h
                        · intro h; exact absurd (h i (by omega) (by omega)).1 ho⟩
theorem valid_at {l : List S34} (h12 : l.length ≤ 12) : valid l ↔ ∀ j : Int, 0 ≤ j → j < (l.length : Int) → okF (rd_T34 l j) ∧ ∀ m, 0 ≤ m → m < j → (rd_T34 l m).f0 ≠ (rd_T34 l j).f0 := by
  constructor
  · intro h j h0 h1
    exact ⟨h.2.1 _ (rd_mem h0 h1), ids_at.1 h.2.2 j h0 h1⟩
  · intro h
    refine ⟨h12, fun p hp => ?_, ids_at.2 fun j h0 h1 => (h j h0 h1).2⟩
    obtain ⟨i, h0, h1, rfl⟩ := mem_rd hp
    exact (h i h0 h1).1
/-- choose.Check -/
theorem Check_tells (l : List S34) (k : Nat) (hk : 250 ≤ k) : ∃ e, choose_Check.f k l = some e ∧ (e = 0 ↔ valid l) := by
  unfold choose_Check.f
  by_cases h : (l.length : Int) > 12
  · rw [if_pos h]
    exact ⟨6, rfl, by constructor; · intro h; cases h
                      · intro h'; have := h'.1; omega⟩
  · rw [if_neg h]
    obtain ⟨e, h1, h2⟩ := check_from l (by omega) l.length 0 k (by omega) (by omega) (by omega)
    exact ⟨e, h1, h2.trans (valid_at (by omega)).symm⟩
theorem Check_ok {l : List S34} (h : valid l) (k : Nat) (hk : 250 ≤ k) : choose_Check.f k l = some 0 := by
  obtain ⟨e, h1, h2⟩ := Check_tells l k hk
  rw [h1, h2.2 h]
theorem Check_no {l : List S34} (h : ¬ valid l) (k : Nat) (hk : 250 ≤ k) : ∃ e, choose_Check.f k l = some e ∧ e ≠ 0 := by
  obtain ⟨e, h1, h2⟩ := Check_tells l k hk
  exact ⟨e, h1, fun he => h (h2.1 he)⟩

theorem ordered_tells {l : List S34} (h : valid l) : cluster_ordered.f l = some (isort l) := by
  unfold cluster_ordered.f
  rw [if_pos ⟨h.1, cluster_ordered.ids_of l h.2.2⟩]
theorem Order_ok {l : List S34} (h : valid l) (k : Nat) (hk : 250 ≤ k) : cluster_Order.f k l = some (isort l) := by
  unfold cluster_Order.f
  rw [Check_ok h k hk, Option.bind_some, if_pos rfl, ordered_tells h]
  rfl
theorem Order_no {l : List S34} (h : ¬ valid l) (k : Nat) (hk : 250 ≤ k) : cluster_Order.f k l = some [] := by
  obtain ⟨e, h1, h2⟩ := Check_no h k hk
  unfold cluster_Order.f
  rw [h1, Option.bind_some, if_neg h2]
theorem isort_length (l : List S34) : (isort l).length = l.length := (isort_perm l).length_eq
theorem System_ok {l : List S34} (h : valid l) (k : Nat) (hk : 250 ≤ k) : cluster_System.f k l = some (if l.length = 0 then (0, false) else ((rd_T34 (isort l) 0).f0, true)) := by
  unfold cluster_System.f
  rw [Order_ok h k hk, Option.bind_some, isort_length]
  by_cases hl : l.length = 0
  · rw [if_pos (by omega), if_pos hl]
  · rw [if_neg (by omega), if_neg hl, if_pos (by omega)]
theorem System_no {l : List S34} (h : ¬ valid l) (k : Nat) (hk : 250 ≤ k) : cluster_System.f k l = some (0, false) := by
  unfold cluster_System.f
  rw [Order_no h k hk, Option.bind_some]
  rfl

/-- the spread -/
def sp (l : List S34) (i : Int) : Int := (cluster_spread.f l i).getD 0
theorem valid_perm {l m : List S34} (h : l.Perm m) (k : valid l) : valid m :=
  ⟨by rw [← h.length_eq]; exact k.1, fun p hp => k.2.1 p (h.symm.subset hp), ids_perm h k.2.2⟩
/-- enough for a spread -/
def fine (l : List S34) : Prop := 2 ≤ l.length ∧ l.length ≤ 12 ∧ ∀ p ∈ l, okO p
theorem valid_fine {l : List S34} (h : valid l) (h2 : 2 ≤ l.length) : fine l := ⟨h2, h.1, fun p hp => (h.2.1 p hp).2.1⟩
theorem fine_fits {l : List S34} (h : fine l) : cluster_spread.fits l = true := by
  unfold cluster_spread.fits
  rw [List.all_eq_true]
  intro p hp
  rw [Bool.and_eq_true]
  exact ⟨decide_eq_true (h.2.2 p hp).1, decide_eq_true (h.2.2 p hp).2⟩
theorem sp_tells {l : List S34} (h : fine l) (i : Int) (h0 : 0 ≤ i) (h1 : i < (l.length : Int)) :
    cluster_spread.f l i = some (sp l i) ∧ Sq.root (sumd (rd_T34 l i).f1 l l.length / ((l.length : Int) - 1)) (sp l i) := by
  have hs := sumd_in (rd_T34 l i).f1 l l.length
  have hl2 := h.1
  have hl12 := h.2.1
  have hq0 : 0 ≤ sumd (rd_T34 l i).f1 l l.length / ((l.length : Int) - 1) := Int.ediv_nonneg hs.1 (by omega)
  have hq1 : sumd (rd_T34 l i).f1 l l.length / ((l.length : Int) - 1) < 9223372036854775808 := by
    apply Int.ediv_lt_of_lt_mul (by omega)
    omega
  obtain ⟨q, hq, hr⟩ := Sq.Sqrt_tells _ hq0 hq1 33 (by omega)
  have e : cluster_spread.f l i = some q := by
    unfold cluster_spread.f
    rw [if_pos ⟨hl2, hl12, h0, h1, fine_fits h⟩, hq]
    rfl
  have e2 : sp l i = q := by unfold sp; rw [e]; rfl
  rw [e2]
  exact ⟨e, hr⟩
theorem Spread_ok {l : List S34} (h : valid l) (i : Int) (k : Nat) (hk : 250 ≤ k) :
    cluster_Spread.f k l i = some (if 2 ≤ l.length ∧ 0 ≤ i ∧ i < (l.length : Int) then sp l i else 0) := by
  unfold cluster_Spread.f
  rw [Check_ok h k hk, Option.bind_some, if_pos rfl]
  by_cases h2 : (l.length : Int) < 2
  · rw [if_pos h2, if_neg (by omega)]
  · rw [if_neg h2]
    by_cases h3 : i < 0
    · rw [if_pos h3, if_neg (by omega)]
    · rw [if_neg h3]
      by_cases h4 : i ≥ (l.length : Int)
      · rw [if_pos h4, if_neg (by omega)]
      · rw [if_neg h4, (sp_tells (valid_fine h (by omega)) i (by omega) (by omega)).1, if_pos ⟨by omega, by omega, by omega⟩]
        rfl
theorem Spread_no {l : List S34} (h : ¬ valid l) (i : Int) (k : Nat) (hk : 250 ≤ k) : cluster_Spread.f k l i = some 0 := by
  obtain ⟨e, h1, h2⟩ := Check_no h k hk
  unfold cluster_Spread.f
  rw [h1, Option.bind_some, if_neg h2]
end Go.Proofs.Ytbcmfmlbagjdoaa.Cq
namespace Go.Proofs.Ytbcmfmlbagjdoaa.Cq
open Go Go.RowKit Go.Proofs.Ytbcmfmlbagjdoaa.PAll Go.Proofs.Ytbcmfmlbagjdoaa.Ca Go.Proofs.YtbcmfmlbagjdoaaW.PrintWords Go.Proofs.YtbcmfmlbagjdoaaW.PrintMore
set_option linter.unusedVariables false
set_option linter.unusedSimpArgs false

theorem up {α : Type} {g : Nat → Option α} (hm : ∀ k, LeO (g k) (g (k + 1))) {k m : Nat} {a : α} (ha : g k = some a) (h : k ≤ m) : g m = some a := by
  have u : ∀ n, g (k + n) = some a := by
    intro n
    induction n with
    | zero => exact ha
    | succ n ih => exact hm _ _ ih
  have := u (m - k)
  rwa [show k + (m - k) = m by omega] at this
theorem awake_ok (k : Nat) (hk : 70 ≤ k) : timesynclaw25_awake.f k = some true := up (fun k => timesynclaw25_awake.mono k) aw_all hk

theorem mn_le (a b : Int) : mn a b ≤ a ∧ mn a b ≤ b := by unfold mn; split <;> omega
theorem mn_or (a b : Int) : mn a b = a ∨ mn a b = b := by unfold mn; split <;> simp
/-- what the first n of a list tell: the place of the greatest spread, that spread, the least jitter -/
def scanP (x : List S34) : Nat → Int × Int × Int
  | 0 => (0, -1, (rd_T34 x 0).f3)
  | n + 1 => if sp x n ≥ (scanP x n).2.1 then ((n : Int), sp x n, mn (scanP x n).2.2 (rd_T34 x n).f3) else ((scanP x n).1, (scanP x n).2.1, mn (scanP x n).2.2 (rd_T34 x n).f3)
theorem scan_most (x : List S34) : ∀ (n : Nat) (i : Nat), i < n → sp x (i : Int) ≤ (scanP x n).2.1
  | 0, i, h => by omega
  | n + 1, i, h => by
    have ih := scan_most x n
    simp only [scanP]
    by_cases hc : sp x n ≥ (scanP x n).2.1
    · rw [if_pos hc]
      by_cases hi : i = n
      · subst hi; exact Int.le_refl _
      · have := ih i (by omega); show sp x i ≤ sp x n; omega
    · rw [if_neg hc]
      by_cases hi : i = n
      · subst hi; show sp x i ≤ (scanP x i).2.1; omega
      · exact ih i (by omega)
theorem scan_least (x : List S34) : ∀ (n : Nat) (i : Nat), i < n → (scanP x n).2.2 ≤ (rd_T34 x (i : Int)).f3
  | 0, i, h => by omega
  | n + 1, i, h => by
    have ih := scan_least x n
    have e : (scanP x (n + 1)).2.2 = mn (scanP x n).2.2 (rd_T34 x n).f3 := by simp only [scanP]; split <;> rfl
    have hm := mn_le (scanP x n).2.2 (rd_T34 x n).f3
    rw [e]
    by_cases hi : i = n
    · subst hi; exact hm.2
    · have := ih i (by omega); omega
theorem sp_pos {x : List S34} (h : fine x) (i : Int) (h0 : 0 ≤ i) (h1 : i < (x.length : Int)) : 0 ≤ sp x i := (sp_tells h i h0 h1).2.1
theorem scan_at {x : List S34} (hf : fine x) : ∀ (n : Nat), 0 < n → n ≤ x.length → 0 ≤ (scanP x n).1 ∧ (scanP x n).1 < n ∧ (scanP x n).2.1 = sp x (scanP x n).1
  | 0, h, _ => by omega
  | n + 1, _, hl => by
    simp only [scanP]
    by_cases hc : sp x n ≥ (scanP x n).2.1
    · rw [if_pos hc]
      exact ⟨by show (0 : Int) ≤ n; omega, by show (n : Int) < _; omega, rfl⟩
    · rw [if_neg hc]
      by_cases hn : n = 0
      · subst hn
        exfalso
        have := sp_pos hf 0 (by omega) (by omega)
        apply hc
        show (-1 : Int) ≤ _
        simp only [Int.natCast_zero]
        omega
      · have ih := scan_at hf n (by omega) (by omega)
        exact ⟨ih.1, by show (scanP x n).1 < _; have := ih.2.1; omega, ih.2.2⟩
def worst (x : List S34) : Int := (scanP x x.length).1
def most (x : List S34) : Int := (scanP x x.length).2.1
def least (x : List S34) : Int := (scanP x x.length).2.2
/-- pruning -/
def pr (keep : Int) : Nat → List S34 → List S34
  | 0, x => x
  | n + 1, x => if (x.length : Int) > keep then (if most x ≤ least x then x else pr keep n (x.eraseIdx (worst x).toNat)) else x

theorem l1_tells {x : List S34} (hf : fine x) (keep : Int) (r : Option (List S34 × Int)) (K : Nat)
    (hc : ∀ k, K ≤ k → (if most x ≤ least x then some (x, 0) else (api_Cand_26.f x (worst x) (worst x + 1)).bind fun t => cluster_Prune.l0 k keep t) = r) :
    ∀ (n i k : Nat), i + n = x.length → K + n + 1 ≤ k → cluster_Prune.l1 k keep x (scanP x i).1 (scanP x i).2.1 (scanP x i).2.2 x (x.length : Int) (i : Int) = r := by
  have h12 := hf.2.1
  intro n
  induction n with
  | zero =>
    intro i k hi hk
    obtain ⟨k, rfl⟩ : ∃ m, k = m + 1 := ⟨k - 1, by omega⟩
    obtain rfl : i = x.length := by omega
    simp only [cluster_Prune.l1]
    rw [if_neg (by omega), ← hc k (by omega)]
    have ha := scan_at hf x.length (by have := hf.1; omega) (Nat.le_refl _)
    have hw : wrap64 ((scanP x x.length).1 + 1) = worst x + 1 := Num.w64_in (by omega) (by omega)
    rw [hw]
    rfl
  | succ n ih =>
    intro i k hi hk
    obtain ⟨k, rfl⟩ : ∃ m, k = m + 1 := ⟨k - 1, by omega⟩
    simp only [cluster_Prune.l1]
    have hs := (sp_tells hf (i : Int) (by omega) (by omega)).1
    have hw : wrap64 ((i : Int) + 1) = ((i + 1 : Nat) : Int) := by rw [Num.w64_in (by omega) (by omega)]; omega
    rw [if_pos (by omega), if_pos (by omega), if_pos (by omega), hs, Option.bind_some, hw]
    have h2 := ih (i + 1) k (by omega) (by omega)
    by_cases hcnd : sp x i ≥ (scanP x i).2.1
    · rw [if_pos hcnd]
      simp only [scanP] at h2
      rw [if_pos hcnd] at h2
      exact h2
    · rw [if_neg hcnd]
      simp only [scanP] at h2
      rw [if_neg hcnd] at h2
      exact h2
theorem erase_fine {x : List S34} (hf : fine x) (i : Nat) (h : i < x.length) (h3 : 3 ≤ x.length) : fine (x.eraseIdx i) :=
  ⟨by rw [List.length_eraseIdx, if_pos h]; omega, by rw [List.length_eraseIdx, if_pos h]; have := hf.2.1; omega, fun p hp => hf.2.2 p (List.mem_of_mem_eraseIdx hp)⟩
theorem l0_tells (keep : Int) (hk1 : 1 ≤ keep) : ∀ (n : Nat) (x : List S34) (k : Nat), x.length ≤ n → x.length ≤ 12 → (∀ p ∈ x, okO p) → 30 * n + 2 ≤ k → cluster_Prune.l0 k keep x = some (pr keep n x, 0) := by
  intro n
  induction n with
  | zero =>
    intro x k hx h12 ho hk
    obtain ⟨k, rfl⟩ : ∃ m, k = m + 1 := ⟨k - 1, by omega⟩
    simp only [cluster_Prune.l0]
    rw [if_neg (by omega)]
    rfl
  | succ n ih =>
    intro x k hx h12 ho hk
    obtain ⟨k, rfl⟩ : ∃ m, k = m + 1 := ⟨k - 1, by omega⟩
    simp only [cluster_Prune.l0, pr]
    by_cases hl : (x.length : Int) > keep
    · have hf : fine x := ⟨by omega, h12, ho⟩
      rw [if_pos hl, if_pos (by omega), if_pos hl]
      have ha := scan_at hf x.length (by omega) (Nat.le_refl _)
      refine l1_tells hf keep _ (30 * n + 2) ?_ x.length 0 k (by omega) (by omega)
      intro k' hk'
      by_cases hm : most x ≤ least x
      · rw [if_pos hm, if_pos hm]
      · rw [if_neg hm, if_neg hm]
        have hw0 : 0 ≤ worst x := ha.1
        have hw1 : worst x < (x.length : Int) := ha.2.1
        unfold api_Cand_26.f
        rw [if_pos ⟨hw0, hw1, rfl⟩, Option.bind_some]
        exact ih _ k' (by rw [List.length_eraseIdx, if_pos (by omega)]; omega) (by rw [List.length_eraseIdx, if_pos (by omega)]; omega) (fun p hp => ho p (List.mem_of_mem_eraseIdx hp)) hk'
    · rw [if_neg hl, if_neg hl]

/-- Prune of a valid list -/
theorem Prune_ok {l : List S34} (h : valid l) (keep : Int) (hk1 : 1 ≤ keep) (k : Nat) (hk : 400 ≤ k) : cluster_Prune.f k l keep = some (pr keep 12 (isort l), 0) := by
  unfold cluster_Prune.f
  rw [Check_ok h k (by omega), Option.bind_some, if_pos rfl, if_neg (by omega), ordered_tells h, Option.bind_some]
  have hi := isort_perm l
  exact l0_tells keep hk1 12 _ k (by rw [isort_length]; exact h.1) (by rw [isort_length]; exact h.1) (fun p hp => (h.2.1 p (hi.subset hp)).2.1) (by omega)
theorem Prune_keep {l : List S34} (h : valid l) (keep : Int) (hk1 : ¬ 1 ≤ keep) (k : Nat) (hk : 400 ≤ k) : cluster_Prune.f k l keep = some ([], 3) := by
  unfold cluster_Prune.f
  rw [Check_ok h k (by omega), Option.bind_some, if_pos rfl, if_pos (by omega)]

/-- what is left is a part of the list, in its order -/
theorem pr_sub (keep : Int) : ∀ (n : Nat) (x : List S34), (pr keep n x).Sublist x
  | 0, x => List.Sublist.refl _
  | n + 1, x => by
    unfold pr
    split
    · split
      · exact List.Sublist.refl _
      · exact (pr_sub keep n _).trans (List.eraseIdx_sublist _ _)
    · exact List.Sublist.refl _
theorem pr_length (keep : Int) : ∀ (n : Nat) (x : List S34), (x.length : Int) ≤ (pr keep n x).length ∨ keep ≤ ((pr keep n x).length : Int)
  | 0, x => by left; exact Int.le_refl _
  | n + 1, x => by
    unfold pr
    split
    · rename_i h
      split
      · left; exact Int.le_refl _
      · right
        have e : x.length - 1 ≤ (x.eraseIdx (worst x).toNat).length := by rw [List.length_eraseIdx]; split <;> omega
        rcases pr_length keep n (x.eraseIdx (worst x).toNat) with h2 | h2
        · omega
        · exact h2
    · left; exact Int.le_refl _
theorem pr_done (keep : Int) (hk1 : 1 ≤ keep) : ∀ (n : Nat) (x : List S34), x.length ≤ n → x.length ≤ 12 → (∀ p ∈ x, okO p) → ((pr keep n x).length : Int) ≤ keep ∨ most (pr keep n x) ≤ least (pr keep n x)
  | 0, x, h, _, _ => by left; unfold pr; omega
  | n + 1, x, h, h12, ho => by
    unfold pr
    split
    · rename_i hl
      split
      · rename_i hm; right; exact hm
      · have hf : fine x := ⟨by omega, h12, ho⟩
        have ha := scan_at hf x.length (by omega) (Nat.le_refl _)
        have hw0 : 0 ≤ worst x := ha.1
        have hw1 : worst x < (x.length : Int) := ha.2.1
        exact pr_done keep hk1 n _ (by rw [List.length_eraseIdx, if_pos (by omega)]; omega) (by rw [List.length_eraseIdx, if_pos (by omega)]; omega) (fun p hp => ho p (List.mem_of_mem_eraseIdx hp))
    · left; omega
theorem pr_same (keep : Int) (n : Nat) (x : List S34) (h : (x.length : Int) ≤ keep ∨ most x ≤ least x) : pr keep n x = x := by
  cases n with
  | zero => rfl
  | succ n =>
    unfold pr
    rcases h with h | h
    · rw [if_neg (by omega)]
    · split
      · rfl
      · rfl
theorem sub_valid {l m : List S34} (h : m.Sublist l) (k : valid l) : valid m :=
  ⟨Nat.le_trans h.length_le k.1, fun p hp => k.2.1 p (h.subset hp), List.Pairwise.sublist h k.2.2⟩
theorem sub_strict {l m : List S34} (h : m.Sublist l) (k : strict l) : strict m := List.Pairwise.sublist h k
end Go.Proofs.Ytbcmfmlbagjdoaa.Cq
namespace Go.Proofs.Ytbcmfmlbagjdoaa.Cq
open Go Go.RowKit Go.Proofs.Ytbcmfmlbagjdoaa.PAll Go.Proofs.Ytbcmfmlbagjdoaa.Ca Go.Proofs.YtbcmfmlbagjdoaaW.PrintWords Go.Proofs.YtbcmfmlbagjdoaaW.PrintMore
set_option linter.unusedVariables false
set_option linter.unusedSimpArgs false
def conv (l : List (Int × Int × Int × Int × Int)) : List S34 := l.map fun p => ⟨p.1, p.2.1, p.2.2.1, p.2.2.2.1, p.2.2.2.2⟩
theorem conv_length (l : List (Int × Int × Int × Int × Int)) : (conv l).length = l.length := by unfold conv; simp
theorem row_reads {w : World} {A : Option Addr} {len cap : Nat} {l : List (Int × Int × Int × Int × Int)} (h : Rk.Row w A len cap l) (h30 : len ≤ 30) : Kd.C k34 w A (conv l).length (conv l) := by
  refine ⟨rfl, by rw [conv_length, h.cnt]; omega, fun hp => ?_⟩
  rw [conv_length, h.cnt] at hp
  cases A with
  | none => have := (h.nil rfl).1; omega
  | some a =>
    refine ⟨a, rfl, fun j p hj => ?_⟩
    unfold conv at hj
    rw [List.getElem?_map] at hj
    obtain ⟨q, hq, rfl⟩ := Option.map_eq_some_iff.1 hj
    obtain ⟨c0, c1, c2, c3, c4⟩ := h.cell a rfl j q hq
    refine ⟨[.int .i64 q.1, .int .i64 q.2.1, .int .i64 q.2.2.1, .int .i64 q.2.2.2.1, .int .i64 q.2.2.2.2], rfl, k34_mk w _, fun i u hu => ?_⟩
    show w.cell? (a.add (j * 5 + i)) = some u
    match i, hu with
    | 0, hu => simp at hu; rw [← hu]; exact c0
    | 1, hu => simp at hu; rw [Open.add_tail a (j * 5) 1 (by decide), ← hu]; exact c1
    | 2, hu => simp at hu; rw [Open.add_tail a (j * 5) 2 (by decide), ← hu]; exact c2
    | 3, hu => simp at hu; rw [Open.add_tail a (j * 5) 3 (by decide), ← hu]; exact c3
    | 4, hu => simp at hu; rw [Open.add_tail a (j * 5) 4 (by decide), ← hu]; exact c4
    | i + 5, hu => simp at hu

theorem awake_any (w : World) : Calls Try.prog 9 #[] w fun e w' => e = .returned (.bool true) ∧ Below w.heap.size w w' :=
  timesynclaw25_awake.calls 70 true w (awake_ok 70 (by omega))
theorem few_big (A : Option Addr) (len cap : Nat) (w : World) (h : 30 < len) : Calls Try.prog 8 #[.slice A len cap] w fun e w' => e = .returned (.bool false) ∧ w = w' := by
  have h1 : ¬ (len : Int) ≤ 30 := by omega
  have h2 : ¬ len ≤ 30 := by omega
  go_enter Try.func8, Try.ntmps8
  go_wp2
  all_goals (go_ret; exact ⟨by simp [h2], rfl⟩)
theorem few_ok {l : List S34} (h : l.length ≤ 30) : timesynclaw25_few.f l = some true := by
  unfold timesynclaw25_few.f
  rw [decide_eq_true (by omega)]
end Go.Proofs.Ytbcmfmlbagjdoaa.Cq
namespace Go.Proofs.Ytbcmfmlbagjdoaa.Cq
open Go Go.RowKit Go.Proofs.Ytbcmfmlbagjdoaa.PAll Go.Proofs.Ytbcmfmlbagjdoaa.Ca Go.Proofs.YtbcmfmlbagjdoaaW.PrintWords Go.Proofs.YtbcmfmlbagjdoaaW.PrintMore
set_option linter.unusedVariables false
set_option linter.unusedSimpArgs false

/-- as many of a list's elements, no two alike: the list in another order -/
theorem perm_of_sub : ∀ (m l : List S34), ids m → (∀ p ∈ m, p ∈ l) → l.length ≤ m.length → m.Perm l
  | [], l, _, _, hl => by
    have : l = [] := List.eq_nil_of_length_eq_zero (by simpa using hl)
    subst this
    exact List.Perm.nil
  | a :: m, l, hm, hs, hl => by
    obtain ⟨s, t, rfl⟩ := List.append_of_mem (hs a (List.mem_cons_self ..))
    have h1 := List.pairwise_cons.1 hm
    have hp : m.Perm (s ++ t) := by
      refine perm_of_sub m (s ++ t) h1.2 (fun p hp => ?_) ?_
      · have h2 := hs p (List.mem_cons_of_mem _ hp)
        rw [List.mem_append, List.mem_cons] at h2
        rw [List.mem_append]
        rcases h2 with h | h | h
        · exact Or.inl h
        · subst h
          exact absurd rfl (h1.1 _ hp)
        · exact Or.inr h
      · simp at hl ⊢
        omega
    exact (List.Perm.cons a hp).trans List.perm_middle.symm
theorem isort_perm_eq {l m : List S34} (h : l.Perm m) (k : ids l) : isort l = isort m :=
  sorted_unique _ _ ((isort_perm l).trans (h.trans (isort_perm m).symm)) (fun i j x y a b c => strict_get (isort_strict l k) i j x y a b c) (fun i j x y a b c => strict_get (isort_strict m (ids_perm h k)) i j x y a b c)

theorem dist_comm (a b : Int) : dist a b = dist b a := by
  have e : (if a < b then b - a else a - b) = (if b < a then a - b else b - a) := by
    by_cases h : a < b
    · rw [if_pos h, if_neg (by omega)]
    · by_cases h2 : b < a
      · rw [if_neg h, if_pos h2]
      · rw [if_neg h, if_neg h2]
        omega
  unfold dist
  rw [e]
theorem dist_self (a : Int) : dist a a = 0 := by unfold dist; simp
/-- the sum is no more than a bound for each of the others -/
theorem sumd_le (o : Int) (l : List S34) (B : Int) (hB : 0 ≤ B) : ∀ k : Nat, (∀ j : Nat, j < k → dist (rd_T34 l (j : Int)).f1 o * dist (rd_T34 l (j : Int)).f1 o ≤ B) → sumd o l k ≤ (k : Int) * B
  | 0, _ => by simp [sumd]
  | k + 1, h => by
    have ih := sumd_le o l B hB k (fun j hj => h j (by omega))
    have h2 := h k (by omega)
    simp only [sumd]
    rw [Int.natCast_add, Int.add_mul, Int.natCast_one, Int.one_mul]
    omega
theorem sumd_but (o : Int) (l : List S34) (B : Int) (hB : 0 ≤ B) (i : Nat) (hi : (rd_T34 l (i : Int)).f1 = o) : ∀ k : Nat, i < k → (∀ j : Nat, j < k → dist (rd_T34 l (j : Int)).f1 o * dist (rd_T34 l (j : Int)).f1 o ≤ B) → sumd o l k ≤ ((k : Int) - 1) * B
  | 0, h, _ => by omega
  | k + 1, hk, h => by
    have h2 := h k (by omega)
    simp only [sumd]
    rw [show ((k + 1 : Nat) : Int) - 1 = (k : Int) by omega]
    by_cases e : i = k
    · subst e
      have ih := sumd_le o l B hB i (fun j hj => h j (by omega))
      rw [hi, dist_self]
      omega
    · have ih := sumd_but o l B hB i hi k (by omega) (fun j hj => h j (by omega))
      have e2 : (k : Int) * B = ((k : Int) - 1) * B + B := by rw [Int.sub_mul, Int.one_mul]; omega
      omega
/-- a spread is at most a bound of all distances -/
theorem sp_le {l : List S34} (h : fine l) (i : Int) (h0 : 0 ≤ i) (h1 : i < (l.length : Int)) (G : Int) (hG : 0 ≤ G) (hb : ∀ j : Nat, j < l.length → dist (rd_T34 l (j : Int)).f1 (rd_T34 l i).f1 ≤ G) : sp l i ≤ G := by
  obtain ⟨_, hr0, hr1, hr2⟩ := sp_tells h i h0 h1
  have hn : 2 ≤ l.length := h.1
  have hs := sumd_but (rd_T34 l i).f1 l (G * G) (Int.mul_nonneg hG hG) i.toNat (by rw [show ((i.toNat : Nat) : Int) = i by omega]) l.length (by omega)
    (fun j hj => by have h2 := hb j hj; have h3 := dist_in (rd_T34 l (j : Int)).f1 (rd_T34 l i).f1; exact Int.mul_le_mul h2 h2 h3.1 hG)
  have hq : sumd (rd_T34 l i).f1 l l.length / ((l.length : Int) - 1) ≤ G * G := by
    have : sumd (rd_T34 l i).f1 l l.length < (G * G + 1) * ((l.length : Int) - 1) := by
      rw [Int.add_mul, Int.one_mul, Int.mul_comm (G * G)]; omega
    have := Int.ediv_lt_of_lt_mul (by omega) this
    omega
  by_cases hle : sp l i ≤ G
  · exact hle
  · exfalso
    have : (G + 1) * (G + 1) ≤ sp l i * sp l i := Int.mul_le_mul (by omega) (by omega) (by omega) (by omega)
    have e : (G + 1) * (G + 1) = G * G + 2 * G + 1 := by rw [Int.add_mul, Int.mul_add]; omega
    omega
theorem sp_top {l : List S34} (h : fine l) (i : Int) (h0 : 0 ≤ i) (h1 : i < (l.length : Int)) : sp l i ≤ 1073741824 :=
  sp_le h i h0 h1 _ (by decide) (fun j _ => (dist_in _ _).2)
/-- two candidates -/
theorem sp_two {l : List S34} (h : fine l) (h2 : l.length = 2) (i : Int) (h0 : 0 ≤ i) (h1 : i < (l.length : Int)) : sp l i = dist (rd_T34 l (1 - i)).f1 (rd_T34 l i).f1 := by
  obtain ⟨_, hr⟩ := sp_tells h i h0 h1
  have hd := dist_in (rd_T34 l (1 - i)).f1 (rd_T34 l i).f1
  refine Sq.root_one hr ⟨hd.1, ?_, ?_⟩
  all_goals
    have hs : sumd (rd_T34 l i).f1 l l.length / ((l.length : Int) - 1) = dist (rd_T34 l (1 - i)).f1 (rd_T34 l i).f1 * dist (rd_T34 l (1 - i)).f1 (rd_T34 l i).f1 := by
      rw [h2]
      show (0 + dist (rd_T34 l 0).f1 (rd_T34 l i).f1 * dist (rd_T34 l 0).f1 (rd_T34 l i).f1 + dist (rd_T34 l 1).f1 (rd_T34 l i).f1 * dist (rd_T34 l 1).f1 (rd_T34 l i).f1) / 1 = _
      rw [Int.ediv_one]
      by_cases hi : i = 0
      · subst hi
        rw [dist_self]
        simp
      · have : i = 1 := by omega
        subst this
        rw [dist_self (rd_T34 l 1).f1]
        simp
    rw [hs]
  · exact Int.le_refl _
  · have e : (dist (rd_T34 l (1 - i)).f1 (rd_T34 l i).f1 + 1) * (dist (rd_T34 l (1 - i)).f1 (rd_T34 l i).f1 + 1) = dist (rd_T34 l (1 - i)).f1 (rd_T34 l i).f1 * dist (rd_T34 l (1 - i)).f1 (rd_T34 l i).f1 + 2 * dist (rd_T34 l (1 - i)).f1 (rd_T34 l i).f1 + 1 := by rw [Int.add_mul, Int.mul_add]; omega
    omega
/-- what the spread hangs on -/
theorem sumd_same (o o' : Int) (l m : List S34) : ∀ k : Nat, (∀ j : Nat, j < k → dist (rd_T34 l (j : Int)).f1 o = dist (rd_T34 m (j : Int)).f1 o') → sumd o l k = sumd o' m k
  | 0, _ => rfl
  | k + 1, h => by
    simp only [sumd]
    rw [sumd_same o o' l m k (fun j hj => h j (by omega)), h k (by omega)]
theorem sp_same {l m : List S34} (h : fine l) (k : fine m) (e : l.length = m.length) (i : Int) (h0 : 0 ≤ i) (h1 : i < (l.length : Int)) (hd : ∀ j : Nat, j < l.length → dist (rd_T34 l (j : Int)).f1 (rd_T34 l i).f1 = dist (rd_T34 m (j : Int)).f1 (rd_T34 m i).f1) : sp l i = sp m i := by
  obtain ⟨_, hr⟩ := sp_tells h i h0 h1
  obtain ⟨_, hs⟩ := sp_tells k i h0 (by omega)
  rw [← e, ← sumd_same _ _ l m l.length hd] at hs
  exact Sq.root_one hr hs

/-- equal lists are the same -/
theorem same_from (x : List S34) (h12 : x.length ≤ 12) : True := trivial
end Go.Proofs.Ytbcmfmlbagjdoaa.Cq
namespace Go.Proofs.Ytbcmfmlbagjdoaa.Cq
open Go Go.RowKit Go.Proofs.Ytbcmfmlbagjdoaa.PAll Go.Proofs.Ytbcmfmlbagjdoaa.Ca Go.Proofs.YtbcmfmlbagjdoaaW.PrintWords Go.Proofs.YtbcmfmlbagjdoaaW.PrintMore
set_option linter.unusedVariables false
set_option linter.unusedSimpArgs false

/-! the reference's check -/
theorem right_tells (p : S34) : ∃ b, timesyncref24_right.f p.f0 p.f1 p.f2 p.f3 p.f4 = some b ∧ (b = true ↔ okF p) := by
  have hw : ∀ n lo hi : Int, timesyncref24_within.f n lo hi = some (decide (lo ≤ n ∧ n ≤ hi)) := by
    intro n lo hi
    unfold timesyncref24_within.f
    by_cases h : lo ≤ n
    · rw [if_pos h]; congr 1; apply decide_eq_decide.2; omega
    · rw [if_neg h]; congr 1; symm; apply decide_eq_false; omega
  unfold timesyncref24_right.f okF
  simp only [hw, Option.bind_some, decide_eq_true_eq]
  by_cases a0 : 0 ≤ p.f0 ∧ p.f0 ≤ 2147483647
  · by_cases a1 : -4503599627370496 ≤ p.f1 ∧ p.f1 ≤ 4503599627370496
    · by_cases a2 : 0 ≤ p.f2 ∧ p.f2 ≤ 9007199254740992
      · by_cases a3 : 0 ≤ p.f3 ∧ p.f3 ≤ 9007199254740992
        · rw [if_pos a0, if_pos a1, if_pos a2, if_pos a3]
          exact ⟨_, rfl, by rw [decide_eq_true_eq]; exact ⟨fun h => ⟨a0, a1, a2, a3, h⟩, fun h => h.2.2.2.2⟩⟩
        · rw [if_pos a0, if_pos a1, if_pos a2, if_neg a3]
          exact ⟨_, rfl, by constructor; · intro h; cases h
                            · intro h; exact absurd h.2.2.2.1 a3⟩
      · rw [if_pos a0, if_pos a1, if_neg a2]
        exact ⟨_, rfl, by constructor; · intro h; cases h
                          · intro h; exact absurd h.2.2.1 a2⟩
    · rw [if_pos a0, if_neg a1]
      exact ⟨_, rfl, by constructor; · intro h; cases h
                        · intro h; exact absurd h.2.1 a1⟩
  · rw [if_neg a0]
    exact ⟨_, rfl, by constructor; · intro h; cases h
                      · intro h; exact absurd h.1 a0⟩

theorem rscan (x : List S34) (i : Int) (h0 : 0 ≤ i) (h1 : i < (x.length : Int)) (h12 : x.length ≤ 12) (R : Prop) (K : Nat)
    (hc : ∀ k, K ≤ k → ∃ e, timesyncref24_Check.l0 k x (i + 1) = some e ∧ (e = 0 ↔ R)) :
    ∀ (n : Nat) (j : Int) (k : Nat), j + n = i → 0 ≤ j → K + n + 1 ≤ k →
      ∃ e, timesyncref24_Check.l1 k x i j = some e ∧ (e = 0 ↔ (∀ m, j ≤ m → m < i → (rd_T34 x m).f0 ≠ (rd_T34 x i).f0) ∧ R) := by
  intro n
  induction n with
  | zero =>
    intro j k hj hj0 hk
    obtain ⟨k, rfl⟩ : ∃ m, k = m + 1 := ⟨k - 1, by omega⟩
    simp only [timesyncref24_Check.l1]
    rw [if_neg (by omega), Num.w64_in (by omega) (by omega)]
    obtain ⟨e, he, hR⟩ := hc k (by omega)
    exact ⟨e, he, hR.trans ⟨fun h => ⟨fun m a b => by omega, h⟩, fun h => h.2⟩⟩
  | succ n ih =>
    intro j k hj hj0 hk
    obtain ⟨k, rfl⟩ : ∃ m, k = m + 1 := ⟨k - 1, by omega⟩
    simp only [timesyncref24_Check.l1]
    rw [if_pos (by omega), if_pos hj0, if_pos (by omega), if_pos h0, if_pos h1]
    by_cases he : (rd_T34 x j).f0 = (rd_T34 x i).f0
    · rw [if_pos he]
      exact ⟨10, rfl, by constructor; · intro h; cases h
                         · intro h; exact absurd he (h.1 j (by omega) (by omega))⟩
    · rw [if_neg he, Num.w64_in (by omega) (by omega)]
      obtain ⟨e, h2, h3⟩ := ih (j + 1) k (by omega) (by omega) (by omega)
      refine ⟨e, h2, h3.trans ⟨fun h => ⟨fun m a b => ?_, h.2⟩, fun h => ⟨fun m a b => h.1 m (by omega) b, h.2⟩⟩⟩
      by_cases hm : m = j
      · subst hm; exact he
      · exact h.1 m (by omega) b
theorem rcheck_from (x : List S34) (h12 : x.length ≤ 12) : ∀ (n : Nat) (i : Int) (k : Nat), i + n = (x.length : Int) → 0 ≤ i → 20 * n + 1 ≤ k →
    ∃ e, timesyncref24_Check.l0 k x i = some e ∧ (e = 0 ↔ ∀ j, i ≤ j → j < (x.length : Int) → okF (rd_T34 x j) ∧ ∀ m, 0 ≤ m → m < j → (rd_T34 x m).f0 ≠ (rd_T34 x j).f0) := by
  intro n
  induction n with
  | zero =>
    intro i k hi h0 hk
    obtain ⟨k, rfl⟩ : ∃ m, k = m + 1 := ⟨k - 1, by omega⟩
    simp only [timesyncref24_Check.l0]
    rw [if_neg (by omega)]
    exact ⟨0, rfl, fun _ j a b => by omega, fun _ => rfl⟩
  | succ n ih =>
    intro i k hi h0 hk
    obtain ⟨k, rfl⟩ : ∃ m, k = m + 1 := ⟨k - 1, by omega⟩
    simp only [timesyncref24_Check.l0]
    obtain ⟨b, hb1, hb2⟩ := right_tells (rd_T34 x i)
    rw [if_pos (by omega), if_pos h0, hb1, Option.bind_some]
    by_cases ho : okF (rd_T34 x i)
    · rw [if_pos (hb2.2 ho)]
      obtain ⟨e, h2, h3⟩ := rscan x i h0 (by omega) h12 _ (20 * n + 1) (fun k hk => ih (i + 1) k (by omega) (by omega) hk) i.toNat 0 k (by omega) (by omega) (by omega)
      refine ⟨e, h2, h3.trans ⟨fun h j a b => ?_, fun h => ⟨fun m a b => (h i (by omega) (by omega)).2 m a b, fun j a b => h j (by omega) b⟩⟩⟩
      by_cases hj : j = i
      · subst hj; exact ⟨ho, h.1⟩
      · exact h.2 j (by omega) b
    · rw [if_neg (fun h => ho (hb2.1 h))]
      exact ⟨3, rfl, by constructor; · intro h; cases h
                        · intro h; exact absurd (h i (by omega) (by omega)).1 ho⟩
theorem rCheck_tells (l : List S34) (k : Nat) (hk : 250 ≤ k) : ∃ e, timesyncref24_Check.f k l = some e ∧ (e = 0 ↔ valid l) := by
  unfold timesyncref24_Check.f
  by_cases h : (l.length : Int) > 12
  · rw [if_pos h]
    exact ⟨6, rfl, by constructor; · intro h; cases h
                      · intro h'; have := h'.1; omega⟩
  · rw [if_neg h]
    obtain ⟨e, h1, h2⟩ := rcheck_from l (by omega) l.length 0 k (by omega) (by omega) (by omega)
    exact ⟨e, h1, h2.trans (valid_at (by omega)).symm⟩
theorem rCheck_ok {l : List S34} (h : valid l) (k : Nat) (hk : 250 ≤ k) : timesyncref24_Check.f k l = some 0 := by
  obtain ⟨e, h1, h2⟩ := rCheck_tells l k hk
  rw [h1, h2.2 h]
theorem rCheck_no {l : List S34} (h : ¬ valid l) (k : Nat) (hk : 250 ≤ k) : ∃ e, timesyncref24_Check.f k l = some e ∧ e ≠ 0 := by
  obtain ⟨e, h1, h2⟩ := rCheck_tells l k hk
  exact ⟨e, h1, fun he => h (h2.1 he)⟩

/-! the reference's order: the first one again and again -/
theorem before_tells (x y : S34) : timesyncref25_before.f x.f0 x.f1 x.f2 x.f3 x.f4 y.f0 y.f1 y.f2 y.f3 y.f4 = some (decide (ltP x y)) := by
  unfold timesyncref25_before.f ltP
  by_cases h4 : x.f4 = y.f4
  · rw [if_pos h4]
    by_cases h2 : x.f2 = y.f2
    · rw [if_pos h2]; congr 1; apply decide_eq_decide.2; omega
    · rw [if_neg h2]; congr 1; apply decide_eq_decide.2; omega
  · rw [if_neg h4]; congr 1; apply decide_eq_decide.2; omega
theorem without_tells (l : List S34) (i : Int) (h0 : 0 ≤ i) (h1 : i < (l.length : Int)) (h12 : l.length ≤ 12) : timesyncref25_without.f l i = some (l.eraseIdx i.toNat) := by
  unfold timesyncref25_without.f
  have hw : wrap64 (i + 1) = i + 1 := Num.w64_in (by omega) (by omega)
  have ht := List.length_take_le i.toNat l
  have hd : (l.drop (i + 1).toNat).length ≤ l.length := by rw [List.length_drop]; omega
  have ht2 : (l.take i.toNat).length ≤ 12 := by rw [List.length_take]; omega
  rw [Option.bind_some, if_pos h0, if_pos (by omega), Option.bind_some, if_pos (by simp only [List.length_nil]; omega), Option.bind_some, hw, if_pos (by omega), if_pos (by omega), Option.bind_some, List.nil_append, if_pos (by omega), List.eraseIdx_eq_take_drop_succ, show (i + 1).toNat = i.toNat + 1 by omega]

theorem ord_l1 (x out : List S34) (h12 : x.length ≤ 12) (ho : out.length ≤ 12) (hid : ids x) (r : List S34) (K : Nat)
    (hc : ∀ k, K ≤ k → ∀ b : Int, 0 ≤ b → b < (x.length : Int) → (∀ j : Int, 0 ≤ j → j < (x.length : Int) → ¬ ltP (rd_T34 x j) (rd_T34 x b)) → timesyncref25_Order.l0 k (x.eraseIdx b.toNat) (out ++ [rd_T34 x b]) = some r) :
    ∀ (n : Nat) (b i : Int) (k : Nat), i + n = (x.length : Int) → 0 ≤ b → b < i → K + n + 1 ≤ k → (∀ j : Int, 0 ≤ j → j < i → ¬ ltP (rd_T34 x j) (rd_T34 x b)) →
      timesyncref25_Order.l1 k x out b i = some r := by
  intro n
  induction n with
  | zero =>
    intro b i k hi hb0 hb1 hk hb
    obtain ⟨k, rfl⟩ : ∃ m, k = m + 1 := ⟨k - 1, by omega⟩
    simp only [timesyncref25_Order.l1]
    rw [if_neg (by omega), if_pos hb0, if_pos (by omega), if_pos (by omega), without_tells x b hb0 (by omega) h12, Option.bind_some]
    exact hc k (by omega) b hb0 (by omega) (fun j j0 j1 => hb j j0 (by omega))
  | succ n ih =>
    intro b i k hi hb0 hb1 hk hb
    obtain ⟨k, rfl⟩ : ∃ m, k = m + 1 := ⟨k - 1, by omega⟩
    simp only [timesyncref25_Order.l1]
    rw [if_pos (by omega), if_pos (by omega), if_pos hb0, if_pos (by omega), before_tells, Option.bind_some, Num.w64_in (by omega) (by omega)]
    by_cases hlt : ltP (rd_T34 x i) (rd_T34 x b)
    · rw [if_pos (decide_eq_true hlt)]
      refine ih i (i + 1) k (by omega) (by omega) (by omega) (by omega) fun j j0 j1 h => ?_
      by_cases hj : j = i
      · subst hj
        unfold ltP at h
        omega
      · exact hb j j0 (by omega) (ltP_trans h hlt)
    · rw [decide_eq_false hlt, if_neg (by decide)]
      refine ih b (i + 1) k (by omega) hb0 (by omega) (by omega) fun j j0 j1 h => ?_
      by_cases hj : j = i
      · subst hj
        exact hlt h
      · exact hb j j0 (by omega) h
theorem erase_perm (x : List S34) (i : Int) (h0 : 0 ≤ i) (h1 : i < (x.length : Int)) : x.Perm (rd_T34 x i :: x.eraseIdx i.toNat) := by
  have hi : i.toNat < x.length := by omega
  have hg := rd_get x i h0 h1
  have e : x = x.take i.toNat ++ rd_T34 x i :: x.drop (i.toNat + 1) := by
    have h2 : x.drop i.toNat = rd_T34 x i :: x.drop (i.toNat + 1) := by
      rw [List.drop_eq_getElem_cons hi]
      obtain ⟨_, hgg⟩ := List.getElem?_eq_some_iff.1 hg
      rw [hgg]
    rw [← h2, List.take_append_drop]
  rw [List.eraseIdx_eq_take_drop_succ]
  exact (List.Perm.of_eq e).trans List.perm_middle
theorem ord_l0 (l : List S34) (hl : ids l) (h12 : l.length ≤ 12) : ∀ (n : Nat) (x out : List S34) (k : Nat), x.length = n → (out ++ x).Perm l → strict out → (∀ p ∈ out, ∀ q ∈ x, ltP p q) → 20 * n + 2 ≤ k →
    timesyncref25_Order.l0 k x out = some (isort l) := by
  intro n
  induction n with
  | zero =>
    intro x out k hn hp hs hb hk
    obtain ⟨k, rfl⟩ : ∃ m, k = m + 1 := ⟨k - 1, by omega⟩
    obtain rfl := List.eq_nil_of_length_eq_zero hn
    simp only [timesyncref25_Order.l0]
    rw [if_neg (by simp)]
    rw [List.append_nil] at hp
    congr 1
    exact sorted_unique _ _ (hp.trans (isort_perm l).symm) (fun i j x y a b c => strict_get hs i j x y a b c) (fun i j x y a b c => strict_get (isort_strict l hl) i j x y a b c)
  | succ n ih =>
    intro x out k hn hp hs hb hk
    obtain ⟨k, rfl⟩ : ∃ m, k = m + 1 := ⟨k - 1, by omega⟩
    simp only [timesyncref25_Order.l0]
    have hlen := hp.length_eq
    rw [List.length_append] at hlen
    have hidx : ids x := (List.pairwise_append.1 (ids_perm hp.symm hl)).2.1
    rw [if_pos (by omega)]
    refine ord_l1 x out (by omega) (by omega) hidx (isort l) (20 * n + 2) (fun k hk b b0 b1 hmin => ?_) n 0 1 k (by omega) (by omega) (by omega) (by omega) (fun j j0 j1 h => ?_)
    · have he := erase_perm x b b0 b1
      have hidp := ids_perm he hidx
      have h1 := List.pairwise_cons.1 hidp
      refine ih (x.eraseIdx b.toNat) (out ++ [rd_T34 x b]) k ?_ ?_ ?_ ?_ hk
      · rw [List.length_eraseIdx, if_pos (by omega)]; omega
      · rw [List.append_assoc]
        exact (List.Perm.append_left out he.symm).trans hp
      · exact List.pairwise_append.2 ⟨hs, List.pairwise_singleton _ _, fun p hp2 q hq => by rw [List.mem_singleton] at hq; rw [hq]; exact hb p hp2 _ (rd_mem b0 b1)⟩
      · intro p hp2 q hq
        have hqx : q ∈ x := List.mem_of_mem_eraseIdx hq
        rw [List.mem_append, List.mem_singleton] at hp2
        rcases hp2 with h | h
        · exact hb p h q hqx
        · rw [h]
          obtain ⟨j, j0, j1, rfl⟩ := mem_rd hqx
          exact ltP_tot (fun e => h1.1 _ hq e.symm) (hmin j j0 j1)
    · have : j = 0 := by omega
      subst this
      unfold ltP at h
      omega
theorem rOrder_ok {l : List S34} (h : valid l) (k : Nat) (hk : 300 ≤ k) : timesyncref25_Order.f k l = some (isort l) := by
  unfold timesyncref25_Order.f
  rw [rCheck_ok h k (by omega), Option.bind_some, if_pos rfl]
  have h12 := h.1
  exact ord_l0 l h.2.2 h.1 l.length l [] k rfl (List.Perm.refl _) List.Pairwise.nil (fun p hp => by cases hp) (by omega)
theorem rOrder_no {l : List S34} (h : ¬ valid l) (k : Nat) (hk : 300 ≤ k) : timesyncref25_Order.f k l = some [] := by
  obtain ⟨e, h1, h2⟩ := rCheck_no h k (by omega)
  unfold timesyncref25_Order.f
  rw [h1, Option.bind_some, if_neg h2]
theorem rSystem_ok {l : List S34} (h : valid l) (k : Nat) (hk : 300 ≤ k) : timesyncref25_System.f k l = some (if l.length = 0 then (0, false) else ((rd_T34 (isort l) 0).f0, true)) := by
  unfold timesyncref25_System.f
  rw [rOrder_ok h k hk, Option.bind_some, isort_length]
  by_cases hl : l.length = 0
  · rw [if_pos (by omega), if_pos hl]
  · rw [if_neg (by omega), if_neg hl, if_pos (by omega)]
theorem rSystem_no {l : List S34} (h : ¬ valid l) (k : Nat) (hk : 300 ≤ k) : timesyncref25_System.f k l = some (0, false) := by
  unfold timesyncref25_System.f
  rw [rOrder_no h k hk, Option.bind_some]
  rfl

/-! the reference's root and spread -/
theorem root_from (n : Int) (h0 : 0 ≤ n) (h1 : n ≤ 1152921504606846976) : ∀ (j : Nat) (k : Nat) (x i : Int), j ≤ 31 → i = (j : Int) - 1 → 0 ≤ x → x % 2 ^ j = 0 → x + 2 ^ j ≤ 2147483648 → x * x ≤ n → n < (x + 2 ^ j) * (x + 2 ^ j) → j + 1 ≤ k →
    ∃ r, timesyncref25_root.l0 k n x i = some r ∧ Sq.root n r := by
  intro j
  induction j with
  | zero =>
    intro k x i hj hi hx0 hx hx1 ha hb hk
    obtain ⟨k, rfl⟩ : ∃ m, k = m + 1 := ⟨k - 1, by omega⟩
    simp only [timesyncref25_root.l0]
    rw [if_neg (by omega), Num.w64_in (by omega) (by simp at hx1; omega)]
    exact ⟨x, rfl, hx0, ha, by simpa using hb⟩
  | succ j ih =>
    intro k x i hj hi hx0 hx hx1 ha hb hk
    obtain ⟨k, rfl⟩ : ∃ m, k = m + 1 := ⟨k - 1, by omega⟩
    simp only [timesyncref25_root.l0]
    obtain rfl : i = (j : Int) := by omega
    have hp0 : (0 : Int) < 2 ^ j := Int.pow_pos (by decide)
    have hp1 : (2 : Int) ^ (j + 1) = 2 * 2 ^ j := by rw [Int.pow_succ]; omega
    rw [hp1] at hx hx1 hb
    have hu : IntKind.u64.wrap (x + 2 ^ j) = x + 2 ^ j := Num.u64_in (by omega) (by omega)
    have hsq := Num.mul_bd (x := x + 2 ^ j) (y := x + 2 ^ j) (m := 2147483648) (n := 2147483648) (by omega) (by omega) (by omega) (by omega)
    have hu2 : IntKind.u64.wrap ((x + 2 ^ j) * (x + 2 ^ j)) = (x + 2 ^ j) * (x + 2 ^ j) := Num.u64_in hsq.1 (by omega)
    have hm : x % 2 ^ j = 0 := by
      have h2 : (2 : Int) ^ j ∣ 2 * 2 ^ j := Int.dvd_mul_left ..
      exact Int.emod_eq_zero_of_dvd (Int.dvd_trans h2 (Int.dvd_of_emod_eq_zero hx))
    rw [if_pos (by omega), if_pos (by omega), Sq.shl_one j (by omega), hu, hu2, Num.w64_in (by omega) (by omega)]
    by_cases hc : (x + 2 ^ j) * (x + 2 ^ j) ≤ n
    · rw [if_pos hc]
      refine ih k (x + 2 ^ j) _ (by omega) (by omega) (by omega) ?_ (by omega) hc ?_ (by omega)
      · rw [Int.add_emod, hm, Int.emod_self]; simp
      · rw [show x + 2 ^ j + 2 ^ j = x + 2 * 2 ^ j by omega]; exact hb
    · rw [if_neg hc]
      exact ih k x _ (by omega) (by omega) hx0 hm (by omega) ha (by omega) (by omega)
theorem root_tells (n : Int) (h0 : 0 ≤ n) (h1 : n ≤ 1152921504606846976) (k : Nat) (hk : 40 ≤ k) : ∃ r, timesyncref25_root.f k n = some r ∧ Sq.root n r := by
  unfold timesyncref25_root.f
  exact root_from n h0 h1 31 k 0 30 (by omega) (by omega) (by omega) (by simp) (by decide) (by omega) (by
    have : (0 + 2 ^ 31) * (0 + 2 ^ 31) = (4611686018427387904 : Int) := by decide
    omega) (by omega)

theorem rdist {a b : Int} (h0 : -4503599627370496 ≤ a ∧ a ≤ 4503599627370496) (h1 : -4503599627370496 ≤ b ∧ b ≤ 4503599627370496) :
    mn (mx (wrap64 (a - b)) (wrap64 (-(wrap64 (a - b))))) 1073741824 = dist b a := by
  have e : wrap64 (a - b) = a - b := Num.w64_in (by omega) (by omega)
  have h := apart_dist h1 h0
  rw [e, show -(a - b) = b - a by omega, dist_comm]
  have h2 := apart_dist h0 h1
  rw [e] at h2
  exact h2
theorem rsp_l0 {l : List S34} (hf : fine l) (i : Int) (h0 : 0 ≤ i) (h1 : i < (l.length : Int)) : ∀ (n j k : Nat), j + n = l.length → n + 50 ≤ k → timesyncref25_spread.l0 k l i (sumd (rd_T34 l i).f1 l j) (j : Int) = some (sp l i) := by
  have h12 := hf.2.1
  have h2 := hf.1
  intro n
  induction n with
  | zero =>
    intro j k hj hk
    obtain ⟨k, rfl⟩ : ∃ m, k = m + 1 := ⟨k - 1, by omega⟩
    obtain rfl : j = l.length := by omega
    simp only [timesyncref25_spread.l0]
    have hs := sumd_in (rd_T34 l i).f1 l l.length
    have ew : wrap64 ((l.length : Int) - 1) = (l.length : Int) - 1 := Num.w64_in (by omega) (by omega)
    have eu : IntKind.u64.wrap ((l.length : Int) - 1) = (l.length : Int) - 1 := Num.u64_in (by omega) (by omega)
    have hq := sumd_but (rd_T34 l i).f1 l 1152921504606846976 (by decide) i.toNat (by rw [show ((i.toNat : Nat) : Int) = i by omega]) l.length (by omega) (fun j _ => (dist_sq _ _).2)
    have hq0 : 0 ≤ sumd (rd_T34 l i).f1 l l.length / ((l.length : Int) - 1) := Int.ediv_nonneg hs.1 (by omega)
    have hq1 : sumd (rd_T34 l i).f1 l l.length / ((l.length : Int) - 1) ≤ 1152921504606846976 := by
      have : sumd (rd_T34 l i).f1 l l.length < 1152921504606846977 * ((l.length : Int) - 1) := by omega
      have := Int.ediv_lt_of_lt_mul (by omega) this
      omega
    rw [if_neg (by omega), ew, eu, if_neg (by omega), Int.tdiv_eq_ediv_of_nonneg hs.1, Num.u64_in hq0 (by omega)]
    obtain ⟨r, hr1, hr2⟩ := root_tells _ hq0 hq1 k (by omega)
    rw [hr1, Option.bind_some, Sq.root_one hr2 (sp_tells hf i h0 h1).2]
  | succ n ih =>
    intro j k hj hk
    obtain ⟨k, rfl⟩ : ∃ m, k = m + 1 := ⟨k - 1, by omega⟩
    simp only [timesyncref25_spread.l0]
    have hw : wrap64 ((j : Int) + 1) = ((j + 1 : Nat) : Int) := by rw [Num.w64_in (by omega) (by omega)]; omega
    have hi1 := hf.2.2 _ (rd_mem h0 h1)
    have hj1 := hf.2.2 _ (rd_mem (l := l) (i := (j : Int)) (by omega) (by omega))
    have hd := dist_sq (rd_T34 l (j : Int)).f1 (rd_T34 l i).f1
    have hs := sumd_in (rd_T34 l i).f1 l j
    rw [if_pos (by omega), if_pos h0, if_pos h1, if_pos (by omega), rdist hi1 hj1, hw, Num.w64_in (by omega) (by omega), Num.u64_in hd.1 (by omega), Num.u64_in (by omega) (by omega)]
    exact ih (j + 1) k (by omega) (by omega)
theorem rSpread_ok {l : List S34} (h : valid l) (i : Int) (k : Nat) (hk : 300 ≤ k) :
    timesyncref25_Spread.f k l i = some (if 2 ≤ l.length ∧ 0 ≤ i ∧ i < (l.length : Int) then sp l i else 0) := by
  unfold timesyncref25_Spread.f
  rw [rCheck_ok h k (by omega), Option.bind_some, if_pos rfl]
  by_cases h3 : i < 0
  · rw [if_pos h3, if_neg (by omega)]
  · rw [if_neg h3]
    by_cases h4 : i ≥ (l.length : Int)
    · rw [if_pos h4, if_neg (by omega)]
    · rw [if_neg h4]
      by_cases h2 : (l.length : Int) < 2
      · rw [if_pos h2, if_neg (by omega)]
      · have hs := rsp_l0 (valid_fine h (by omega)) i (by omega) (by omega) l.length 0 k (by omega) (by have := h.1; omega)
        unfold timesyncref25_spread.f
        rw [if_neg h2, if_pos ⟨by omega, by omega, by omega⟩]
        show (timesyncref25_spread.l0 k l i 0 0).bind _ = _
        have e : timesyncref25_spread.l0 k l i 0 0 = some (sp l i) := hs
        rw [e]
        rfl
theorem rSpread_no {l : List S34} (h : ¬ valid l) (i : Int) (k : Nat) (hk : 300 ≤ k) : timesyncref25_Spread.f k l i = some 0 := by
  obtain ⟨e, h1, h2⟩ := rCheck_no h k (by omega)
  unfold timesyncref25_Spread.f
  rw [h1, Option.bind_some, if_neg h2]

theorem same_refl (x : List S34) (h12 : x.length ≤ 30) (k : Nat) (hk : 40 ≤ k) : timesynclaw25_same.f k x x = some true := by
  have h : ∀ (n : Nat) (i : Int) (k : Nat), i + n = (x.length : Int) → 0 ≤ i → n + 1 ≤ k → timesynclaw25_same.l0 k x x i = some true := by
    intro n
    induction n with
    | zero =>
      intro i k hi h0 hk
      obtain ⟨k, rfl⟩ : ∃ m, k = m + 1 := ⟨k - 1, by omega⟩
      simp only [timesynclaw25_same.l0]
      rw [if_neg (by omega)]
    | succ n ih =>
      intro i k hi h0 hk
      obtain ⟨k, rfl⟩ : ∃ m, k = m + 1 := ⟨k - 1, by omega⟩
      simp only [timesynclaw25_same.l0]
      rw [if_pos (by omega), if_pos h0, if_pos (by omega), if_neg (by simp), Num.w64_in (by omega) (by omega)]
      exact ih (i + 1) k (by omega) (by omega) (by omega)
  unfold timesynclaw25_same.f
  rw [if_pos rfl]
  exact h x.length 0 k (by omega) (by omega) (by omega)

theorem Orders_true (l : List S34) (i : Int) (h30 : l.length ≤ 30) : timesynclaw25_ClusterOrders.f 1200 l i = some true := by
  unfold timesynclaw25_ClusterOrders.f
  rw [few_ok h30, Option.bind_some, if_pos rfl]
  have hsame : ∀ x : List S34, x.length ≤ 30 → timesynclaw25_same.f 1200 x x = some true := fun x hx => same_refl x hx _ (by omega)
  by_cases hv : valid l
  · rw [System_ok hv _ (by omega), Option.bind_some, rSystem_ok hv _ (by omega), Option.bind_some, Order_ok hv _ (by omega), Option.bind_some, rOrder_ok hv _ (by omega), Option.bind_some, hsame _ (by rw [isort_length]; exact h30), Option.bind_some, if_pos rfl, if_pos rfl, Spread_ok hv i _ (by omega), rSpread_ok hv i _ (by omega)]
    simp only [Option.bind_some]
    by_cases hl : l.length = 0
    · rw [if_pos hl, if_neg (by decide), if_neg (by decide), if_pos trivial, awake_ok _ (by omega)]
      rfl
    · rw [if_neg hl, if_pos rfl, if_pos rfl, if_pos trivial, awake_ok _ (by omega)]
      rfl
  · rw [System_no hv _ (by omega), Option.bind_some, rSystem_no hv _ (by omega), Option.bind_some, Order_no hv _ (by omega), Option.bind_some, rOrder_no hv _ (by omega), Option.bind_some, hsame _ (by simp), Option.bind_some, if_pos rfl, if_pos rfl, Spread_no hv i _ (by omega), rSpread_no hv i _ (by omega)]
    simp only [Option.bind_some]
    rw [if_neg (by decide), if_neg (by decide), if_pos trivial, awake_ok _ (by omega)]
    rfl

theorem ClusterOrders_walk (A : Option Addr) (len cap : Nat) (l : List (Int × Int × Int × Int × Int)) (i : Int) (w : World) (hl : Rk.Row w A len cap l) (w1 : (Lit.int .i64 i).wf = true) :
    Calls Try.prog 3 #[.slice A len cap, .int .i64 i] w fun e w' => e = .returned (.bool true) ∧ Below w.heap.size w w' := by
  by_cases h : 30 < len
  · go_enter Try.func3, Try.ntmps3
    go_wp2_with (first
      | (go_at_call 8
         with_reducible refine Calls.mono (few_big _ _ _ _ h) ?_
         rintro e w1 ⟨rfl, rfl⟩)
      | (go_at_call 9
         with_reducible refine Calls.mono (awake_any _) ?_
         rintro e w5 ⟨rfl, b5⟩))
    all_goals (go_ret; exact ⟨rfl, b5⟩)
  · have hr := row_reads hl (by omega)
    have e : (conv l).length = len := by rw [conv_length, hl.cnt]
    have hc := timesynclaw25_ClusterOrders.calls 1200 A cap (conv l) i true w hr (by rw [e]; exact hl.le) (Orders_true (conv l) i (by omega))
    rwa [e] at hc
end Go.Proofs.Ytbcmfmlbagjdoaa.Cq
