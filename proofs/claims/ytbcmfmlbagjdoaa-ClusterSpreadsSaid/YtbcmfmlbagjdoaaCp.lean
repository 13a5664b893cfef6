/- The candidates, in plain Lean: what Check, Order, System, Spread return. -/
import Derived.Test.YtbcmfmlbagjdoaaPAllx3
import Derived.Test.YtbcmfmlbagjdoaaPAllx26
import Derived.Test.YtbcmfmlbagjdoaaPAllx32
import Derived.Test.YtbcmfmlbagjdoaaCs
namespace Go.Proofs.Ytbcmfmlbagjdoaa.Cq
open Go Go.RowKit Go.Proofs.Ytbcmfmlbagjdoaa.PAll Go.Proofs.Ytbcmfmlbagjdoaa.Ca Go.Proofs.YtbcmfmlbagjdoaaW.PrintWords Go.Proofs.YtbcmfmlbagjdoaaW.PrintMore
set_option linter.unusedVariables false
set_option linter.unusedSimpArgs false

/-- a candidate within its bounds -/
def okF (p : S34) : Prop := (0 ≤ p.f0 ∧ p.f0 ≤ 2147483647) ∧ (-4503599627370496 ≤ p.f1 ∧ p.f1 ≤ 4503599627370496) ∧ (0 ≤ p.f2 ∧ p.f2 ≤ 9007199254740992) ∧ (0 ≤ p.f3 ∧ p.f3 ≤ 9007199254740992) ∧ (1 ≤ p.f4 ∧ p.f4 ≤ 16)
def valid (l : List S34) : Prop := l.length ≤ 12 ∧ (∀ p ∈ l, okF p) ∧ ids l
theorem rd_get (l : List S34) (i : Int) (h0 : 0 ≤ i) (h1 : i < (l.length : Int)) : l[i.toNat]? = some (rd_T34 l i) := by
  have hi : i.toNat < l.length := by omega
  unfold rd_T34
  rw [List.getD_eq_getElem?_getD, List.getElem?_eq_getElem hi]; rfl
theorem rd_mem {l : List S34} {i : Int} (h0 : 0 ≤ i) (h1 : i < (l.length : Int)) : rd_T34 l i ∈ l := List.mem_of_getElem? (rd_get l i h0 h1)
theorem rd_of {l : List S34} {i : Nat} {x : S34} (h : l[i]? = some x) : rd_T34 l (i : Int) = x := by
  unfold rd_T34
  rw [List.getD_eq_getElem?_getD, show ((i : Int)).toNat = i by omega, h]; rfl
theorem mem_rd {l : List S34} {p : S34} (h : p ∈ l) : ∃ i : Int, 0 ≤ i ∧ i < (l.length : Int) ∧ rd_T34 l i = p := by
  obtain ⟨i, hi⟩ := List.mem_iff_getElem?.1 h
  exact ⟨(i : Int), by omega, by have := (List.getElem?_eq_some_iff.1 hi).1; omega, rd_of hi⟩
theorem rd_take (l : List S34) (i j : Int) (h0 : 0 ≤ j) (h1 : j < i) : rd_T34 (l.take i.toNat) j = rd_T34 l j := by
  unfold rd_T34
  rw [List.getD_eq_getElem?_getD, List.getD_eq_getElem?_getD, List.getElem?_take, if_pos (by omega)]
theorem ids_at {l : List S34} : ids l ↔ ∀ j : Int, 0 ≤ j → j < (l.length : Int) → ∀ m : Int, 0 ≤ m → m < j → (rd_T34 l m).f0 ≠ (rd_T34 l j).f0 := by
  constructor
  · intro h j h0 h1 m h2 h3
    have e1 := rd_get l j h0 h1
    have e2 := rd_get l m h2 (by omega)
    obtain ⟨k1, g1⟩ := List.getElem?_eq_some_iff.1 e1
    obtain ⟨k2, g2⟩ := List.getElem?_eq_some_iff.1 e2
    have := List.pairwise_iff_getElem.1 h m.toNat j.toNat k2 k1 (by omega)
    rwa [g1, g2] at this
  · intro h
    refine List.pairwise_iff_getElem.2 fun i j hi hj hij => ?_
    have := h (j : Int) (by omega) (by omega) (i : Int) (by omega) (by omega)
    rwa [rd_of (List.getElem?_eq_getElem hi), rd_of (List.getElem?_eq_getElem hj)] at this

theorem step_ok (k : Nat) (x : List S34) (i : Int) (h0 : 0 ≤ i) (h1 : i < (x.length : Int)) (h : okF (rd_T34 x i)) :
    choose_Check.l0 (k + 1) x x (x.length : Int) i = choose_Check.j1 k x i x (x.length : Int) i false (rd_T34 x i).f0 (rd_T34 x i).f1 (rd_T34 x i).f2 (rd_T34 x i).f3 (rd_T34 x i).f4 := by
  simp only [choose_Check.l0]
  rw [if_pos h1, if_pos h0, if_pos h1]
  generalize rd_T34 x i = p at *
  unfold okF at h
  rw [if_neg (by omega), if_neg (by omega), if_neg (by omega), if_neg (by omega), if_neg (by omega), if_neg (by omega), if_neg (by omega), if_neg (by omega), if_neg (by omega), decide_eq_false (by omega)]
theorem step_bad (k : Nat) (x : List S34) (i : Int) (h0 : 0 ≤ i) (h1 : i < (x.length : Int)) (h : ¬ okF (rd_T34 x i)) :
    choose_Check.l0 (k + 2) x x (x.length : Int) i = some 3 := by
  simp only [choose_Check.l0]
  rw [if_pos h1, if_pos h0, if_pos h1]
  generalize rd_T34 x i = p at *
  unfold okF at h
  by_cases a0 : p.f0 < 0
  · rw [if_pos a0]; simp [choose_Check.j1]
  rw [if_neg a0]
  by_cases a1 : p.f0 > 2147483647
  · rw [if_pos a1]; simp [choose_Check.j1]
  rw [if_neg a1]
  by_cases a2 : p.f1 < (-4503599627370496)
  · rw [if_pos a2]; simp [choose_Check.j1]
  rw [if_neg a2]
  by_cases a3 : p.f1 > 4503599627370496
  · rw [if_pos a3]; simp [choose_Check.j1]
  rw [if_neg a3]
  by_cases a4 : p.f2 < 0
  · rw [if_pos a4]; simp [choose_Check.j1]
  rw [if_neg a4]
  by_cases a5 : p.f2 > 9007199254740992
  · rw [if_pos a5]; simp [choose_Check.j1]
  rw [if_neg a5]
  by_cases a6 : p.f3 < 0
  · rw [if_pos a6]; simp [choose_Check.j1]
  rw [if_neg a6]
  by_cases a7 : p.f3 > 9007199254740992
  · rw [if_pos a7]; simp [choose_Check.j1]
  rw [if_neg a7]
  by_cases a8 : p.f4 < 1
  · rw [if_pos a8]; simp [choose_Check.j1]
  rw [if_neg a8]
  have a9 : p.f4 > 16 := by omega
  rw [decide_eq_true a9]
  simp [choose_Check.j1]

theorem scan (x : List S34) (i : Int) (h0 : 0 ≤ i) (h1 : i < (x.length : Int)) (h12 : x.length ≤ 12) (R : Prop) (K : Nat) (y1 y2 y3 y4 : Int)
    (hc : ∀ k, K ≤ k → ∃ e, choose_Check.l0 k x x (x.length : Int) (i + 1) = some e ∧ (e = 0 ↔ R)) :
    ∀ (n : Nat) (j : Int) (k : Nat), j + n = i → 0 ≤ j → K + n + 1 ≤ k →
      ∃ e, choose_Check.l1 k x x (x.length : Int) i (x.take i.toNat) ((x.take i.toNat).length : Int) j (rd_T34 x i).f0 y1 y2 y3 y4 = some e ∧ (e = 0 ↔ (∀ m, j ≤ m → m < i → (rd_T34 x m).f0 ≠ (rd_T34 x i).f0) ∧ R) := by
  have hl : ((x.take i.toNat).length : Int) = i := by rw [List.length_take]; omega
  rw [hl]
  intro n
  induction n with
  | zero =>
    intro j k hj hj0 hk
    obtain ⟨k, rfl⟩ : ∃ m, k = m + 1 := ⟨k - 1, by omega⟩
    simp only [choose_Check.l1]
    rw [if_neg (by omega), Num.w64_in (by omega) (by omega)]
    obtain ⟨e, he, hR⟩ := hc k (by omega)
    exact ⟨e, he, hR.trans ⟨fun h => ⟨fun m a b => by omega, h⟩, fun h => h.2⟩⟩
  | succ n ih =>
    intro j k hj hj0 hk
    obtain ⟨k, rfl⟩ : ∃ m, k = m + 1 := ⟨k - 1, by omega⟩
    simp only [choose_Check.l1]
    rw [if_pos (by omega), if_pos hj0, if_pos (by omega), rd_take x i j hj0 (by omega)]
    by_cases he : (rd_T34 x j).f0 = (rd_T34 x i).f0
    · rw [if_pos he]
      exact ⟨10, rfl, by constructor; · intro h; cases h
                         · intro h; exact absurd he (h.1 j (by omega) (by omega))⟩
    · rw [if_neg he, Num.w64_in (by omega) (by omega)]
      obtain ⟨e, h2, h3⟩ := ih (j + 1) k (by omega) (by omega) (by omega)
      refine ⟨e, h2, h3.trans ⟨fun h => ⟨fun m a b => ?_, h.2⟩, fun h => ⟨fun m a b => h.1 m (by omega) b, h.2⟩⟩⟩
      by_cases hm : m = j
      · subst hm; exact he
      · exact h.1 m (by omega) b

theorem check_from (x : List S34) (h12 : x.length ≤ 12) : ∀ (n : Nat) (i : Int) (k : Nat), i + n = (x.length : Int) → 0 ≤ i → 20 * n + 1 ≤ k →
    ∃ e, choose_Check.l0 k x x (x.length : Int) i = some e ∧ (e = 0 ↔ ∀ j, i ≤ j → j < (x.length : Int) → okF (rd_T34 x j) ∧ ∀ m, 0 ≤ m → m < j → (rd_T34 x m).f0 ≠ (rd_T34 x j).f0) := by
  intro n
  induction n with
  | zero =>
    intro i k hi h0 hk
    obtain ⟨k, rfl⟩ : ∃ m, k = m + 1 := ⟨k - 1, by omega⟩
    simp only [choose_Check.l0]
    rw [if_neg (by omega)]
    exact ⟨0, rfl, fun _ j a b => by omega, fun _ => rfl⟩
  | succ n ih =>
    intro i k hi h0 hk
    obtain ⟨k, rfl⟩ : ∃ m, k = m + 2 := ⟨k - 2, by omega⟩
    by_cases ho : okF (rd_T34 x i)
    · rw [step_ok (k + 1) x i h0 (by omega) ho]
      simp only [choose_Check.j1]
      rw [if_neg (by decide), if_pos h0, if_pos (by omega)]
      show ∃ e, choose_Check.l1 k x x (x.length : Int) i (x.take i.toNat) ((x.take i.toNat).length : Int) 0 (rd_T34 x i).f0 _ _ _ _ = some e ∧ _
      obtain ⟨e, h2, h3⟩ := scan x i h0 (by omega) h12 _ (20 * n + 1) _ _ _ _ (fun k hk => ih (i + 1) k (by omega) (by omega) hk) i.toNat 0 k (by omega) (by omega) (by omega)
      refine ⟨e, h2, h3.trans ⟨fun h j a b => ?_, fun h => ⟨fun m a b => (h i (by omega) (by omega)).2 m a b, fun j a b => h j (by omega) b⟩⟩⟩
      by_cases hj : j = i
      · subst hj; exact ⟨ho, h.1⟩
      · exact h.2 j (by omega) b
    · rw [step_bad k x i h0 (by omega) ho]
      exact ⟨3, rfl, by constructor; · intro h; cases h
                        · intro h; exact absurd (h i (by omega) (by omega)).1 ho⟩
theorem valid_at {l : List S34} (h12 : l.length ≤ 12) : valid l ↔ ∀ j : Int, 0 ≤ j → j < (l.length : Int) → okF (rd_T34 l j) ∧ ∀ m, 0 ≤ m → m < j → (rd_T34 l m).f0 ≠ (rd_T34 l j).f0 := by
  constructor
  · intro h j h0 h1
    exact ⟨h.2.1 _ (rd_mem h0 h1), ids_at.1 h.2.2 j h0 h1⟩
  · intro h
    refine ⟨h12, fun p hp => ?_, ids_at.2 fun j h0 h1 => (h j h0 h1).2⟩
    obtain ⟨i, h0, h1, rfl⟩ := mem_rd hp
    exact (h i h0 h1).1
/-- choose.Check -/
theorem Check_tells (l : List S34) (k : Nat) (hk : 250 ≤ k) : ∃ e, choose_Check.f k l = some e ∧ (e = 0 ↔ valid l) := by
  unfold choose_Check.f
  by_cases h : (l.length : Int) > 12
  · rw [if_pos h]
    exact ⟨6, rfl, by constructor; · intro h; cases h
                      · intro h'; have := h'.1; omega⟩
  · rw [if_neg h]
    obtain ⟨e, h1, h2⟩ := check_from l (by omega) l.length 0 k (by omega) (by omega) (by omega)
    exact ⟨e, h1, h2.trans (valid_at (by omega)).symm⟩
theorem Check_ok {l : List S34} (h : valid l) (k : Nat) (hk : 250 ≤ k) : choose_Check.f k l = some 0 := by
  obtain ⟨e, h1, h2⟩ := Check_tells l k hk
  rw [h1, h2.2 h]
theorem Check_no {l : List S34} (h : ¬ valid l) (k : Nat) (hk : 250 ≤ k) : ∃ e, choose_Check.f k l = some e ∧ e ≠ 0 := by
  obtain ⟨e, h1, h2⟩ := Check_tells l k hk
  exact ⟨e, h1, fun he => h (h2.1 he)⟩

theorem ordered_tells {l : List S34} (h : valid l) : cluster_ordered.f l = some (isort l) := by
  unfold cluster_ordered.f
  rw [if_pos ⟨h.1, cluster_ordered.ids_of l h.2.2⟩]
theorem Order_ok {l : List S34} (h : valid l) (k : Nat) (hk : 250 ≤ k) : cluster_Order.f k l = some (isort l) := by
  unfold cluster_Order.f
  rw [Check_ok h k hk, Option.bind_some, if_pos rfl, ordered_tells h]
  rfl
theorem Order_no {l : List S34} (h : ¬ valid l) (k : Nat) (hk : 250 ≤ k) : cluster_Order.f k l = some [] := by
  obtain ⟨e, h1, h2⟩ := Check_no h k hk
  unfold cluster_Order.f
  rw [h1, Option.bind_some, if_neg h2]
theorem isort_length (l : List S34) : (isort l).length = l.length := (isort_perm l).length_eq
theorem System_ok {l : List S34} (h : valid l) (k : Nat) (hk : 250 ≤ k) : cluster_System.f k l = some (if l.length = 0 then (0, false) else ((rd_T34 (isort l) 0).f0, true)) := by
  unfold cluster_System.f
  rw [Order_ok h k hk, Option.bind_some, isort_length]
  by_cases hl : l.length = 0
  · rw [if_pos (by omega), if_pos hl]
  · rw [if_neg (by omega), if_neg hl, if_pos (by omega)]
theorem System_no {l : List S34} (h : ¬ valid l) (k : Nat) (hk : 250 ≤ k) : cluster_System.f k l = some (0, false) := by
  unfold cluster_System.f
  rw [Order_no h k hk, Option.bind_some]
  rfl

/-- the spread -/
def sp (l : List S34) (i : Int) : Int := (cluster_spread.f l i).getD 0
theorem valid_perm {l m : List S34} (h : l.Perm m) (k : valid l) : valid m :=
  ⟨by rw [← h.length_eq]; exact k.1, fun p hp => k.2.1 p (h.symm.subset hp), ids_perm h k.2.2⟩
/-- enough for a spread -/
def fine (l : List S34) : Prop := 2 ≤ l.length ∧ l.length ≤ 12 ∧ ∀ p ∈ l, okO p
theorem valid_fine {l : List S34} (h : valid l) (h2 : 2 ≤ l.length) : fine l := ⟨h2, h.1, fun p hp => (h.2.1 p hp).2.1⟩
theorem fine_fits {l : List S34} (h : fine l) : cluster_spread.fits l = true := by
  unfold cluster_spread.fits
  rw [List.all_eq_true]
  intro p hp
  rw [Bool.and_eq_true]
  exact ⟨decide_eq_true (h.2.2 p hp).1, decide_eq_true (h.2.2 p hp).2⟩
theorem sp_tells {l : List S34} (h : fine l) (i : Int) (h0 : 0 ≤ i) (h1 : i < (l.length : Int)) :
    cluster_spread.f l i = some (sp l i) ∧ Sq.root (sumd (rd_T34 l i).f1 l l.length / ((l.length : Int) - 1)) (sp l i) := by
  have hs := sumd_in (rd_T34 l i).f1 l l.length
  have hl2 := h.1
  have hl12 := h.2.1
  have hq0 : 0 ≤ sumd (rd_T34 l i).f1 l l.length / ((l.length : Int) - 1) := Int.ediv_nonneg hs.1 (by omega)
  have hq1 : sumd (rd_T34 l i).f1 l l.length / ((l.length : Int) - 1) < 9223372036854775808 := by
    apply Int.ediv_lt_of_lt_mul (by omega)
    omega
  obtain ⟨q, hq, hr⟩ := Sq.Sqrt_tells _ hq0 hq1 33 (by omega)
  have e : cluster_spread.f l i = some q := by
    unfold cluster_spread.f
    rw [if_pos ⟨hl2, hl12, h0, h1, fine_fits h⟩, hq]
    rfl
  have e2 : sp l i = q := by unfold sp; rw [e]; rfl
  rw [e2]
  exact ⟨e, hr⟩
theorem Spread_ok {l : List S34} (h : valid l) (i : Int) (k : Nat) (hk : 250 ≤ k) :
    cluster_Spread.f k l i = some (if 2 ≤ l.length ∧ 0 ≤ i ∧ i < (l.length : Int) then sp l i else 0) := by
  unfold cluster_Spread.f
  rw [Check_ok h k hk, Option.bind_some, if_pos rfl]
  by_cases h2 : (l.length : Int) < 2
  · rw [if_pos h2, if_neg (by omega)]
  · rw [if_neg h2]
    by_cases h3 : i < 0
    · rw [if_pos h3, if_neg (by omega)]
    · rw [if_neg h3]
      by_cases h4 : i ≥ (l.length : Int)
      · rw [if_pos h4, if_neg (by omega)]
      · rw [if_neg h4, (sp_tells (valid_fine h (by omega)) i (by omega) (by omega)).1, if_pos ⟨by omega, by omega, by omega⟩]
        rfl
theorem Spread_no {l : List S34} (h : ¬ valid l) (i : Int) (k : Nat) (hk : 250 ≤ k) : cluster_Spread.f k l i = some 0 := by
  obtain ⟨e, h1, h2⟩ := Check_no h k hk
  unfold cluster_Spread.f
  rw [h1, Option.bind_some, if_neg h2]
end Go.Proofs.Ytbcmfmlbagjdoaa.Cq
