/- TopChimers, in plain Lean. -/
import Derived.Test.YtfnfmlcngleemaaNum
import Derived.Test.YtfnfmlcngleemaaPAllx33
namespace Go.Proofs.Ytfnfmlcngleemaa.Tp
open Go Go.RowKit Go.Proofs.Ytfnfmlcngleemaa.PAll Go.Proofs.YtfnfmlcngleemaaW.PrintWords Go.Proofs.YtfnfmlcngleemaaW.PrintMore
set_option linter.unusedVariables false
set_option linter.unusedSimpArgs false

theorem up {α : Type} {g : Nat → Option α} (hm : ∀ k, LeO (g k) (g (k + 1))) {k m : Nat} {a : α} (ha : g k = some a) (h : k ≤ m) : g m = some a := by
  have u : ∀ n, g (k + n) = some a := by
    intro n
    induction n with
    | zero => exact ha
    | succ n ih => exact hm _ _ ih
  have := u (m - k)
  rwa [show k + (m - k) = m by omega] at this

/-! the check -/
/-- no two of the same number -/
def ids (l : List S32) : Prop := l.Pairwise fun x y => x.f0 ≠ y.f0
/-- a candidate within its bounds -/
def okF (p : S32) : Prop := (0 ≤ p.f0 ∧ p.f0 ≤ 2147483647) ∧ (-4503599627370496 ≤ p.f1 ∧ p.f1 ≤ 4503599627370496) ∧ (0 ≤ p.f2 ∧ p.f2 ≤ 9007199254740992) ∧ (0 ≤ p.f3 ∧ p.f3 ≤ 9007199254740992) ∧ (1 ≤ p.f4 ∧ p.f4 ≤ 16)
def valid (l : List S32) : Prop := l.length ≤ 12 ∧ (∀ p ∈ l, okF p) ∧ ids l
theorem rd_get (l : List S32) (i : Int) (h0 : 0 ≤ i) (h1 : i < (l.length : Int)) : l[i.toNat]? = some (rd_T32 l i) := by
  have hi : i.toNat < l.length := by omega
  unfold rd_T32
  rw [List.getD_eq_getElem?_getD, List.getElem?_eq_getElem hi]; rfl
theorem rd_mem {l : List S32} {i : Int} (h0 : 0 ≤ i) (h1 : i < (l.length : Int)) : rd_T32 l i ∈ l := List.mem_of_getElem? (rd_get l i h0 h1)
theorem rd_of {l : List S32} {i : Nat} {x : S32} (h : l[i]? = some x) : rd_T32 l (i : Int) = x := by
  unfold rd_T32
  rw [List.getD_eq_getElem?_getD, show ((i : Int)).toNat = i by omega, h]; rfl
theorem mem_rd {l : List S32} {p : S32} (h : p ∈ l) : ∃ i : Int, 0 ≤ i ∧ i < (l.length : Int) ∧ rd_T32 l i = p := by
  obtain ⟨i, hi⟩ := List.mem_iff_getElem?.1 h
  exact ⟨(i : Int), by omega, by have := (List.getElem?_eq_some_iff.1 hi).1; omega, rd_of hi⟩
theorem rd_take (l : List S32) (i j : Int) (h0 : 0 ≤ j) (h1 : j < i) : rd_T32 (l.take i.toNat) j = rd_T32 l j := by
  unfold rd_T32
  rw [List.getD_eq_getElem?_getD, List.getD_eq_getElem?_getD, List.getElem?_take, if_pos (by omega)]
theorem ids_at {l : List S32} : ids l ↔ ∀ j : Int, 0 ≤ j → j < (l.length : Int) → ∀ m : Int, 0 ≤ m → m < j → (rd_T32 l m).f0 ≠ (rd_T32 l j).f0 := by
  constructor
  · intro h j h0 h1 m h2 h3
    have e1 := rd_get l j h0 h1
    have e2 := rd_get l m h2 (by omega)
    obtain ⟨k1, g1⟩ := List.getElem?_eq_some_iff.1 e1
    obtain ⟨k2, g2⟩ := List.getElem?_eq_some_iff.1 e2
    have := List.pairwise_iff_getElem.1 h m.toNat j.toNat k2 k1 (by omega)
    rwa [g1, g2] at this
  · intro h
    refine List.pairwise_iff_getElem.2 fun i j hi hj hij => ?_
    have := h (j : Int) (by omega) (by omega) (i : Int) (by omega) (by omega)
    rwa [rd_of (List.getElem?_eq_getElem hi), rd_of (List.getElem?_eq_getElem hj)] at this

theorem step_ok (k : Nat) (x : List S32) (i : Int) (h0 : 0 ≤ i) (h1 : i < (x.length : Int)) (h : okF (rd_T32 x i)) :
    choose_Check.l0 (k + 1) x x (x.length : Int) i = choose_Check.j1 k x i x (x.length : Int) i false (rd_T32 x i).f0 (rd_T32 x i).f1 (rd_T32 x i).f2 (rd_T32 x i).f3 (rd_T32 x i).f4 := by
  simp only [choose_Check.l0]
  rw [if_pos h1, if_pos h0, if_pos h1]
  generalize rd_T32 x i = p at *
  unfold okF at h
  rw [if_neg (by omega), if_neg (by omega), if_neg (by omega), if_neg (by omega), if_neg (by omega), if_neg (by omega), if_neg (by omega), if_neg (by omega), if_neg (by omega), decide_eq_false (by omega)]
theorem step_bad (k : Nat) (x : List S32) (i : Int) (h0 : 0 ≤ i) (h1 : i < (x.length : Int)) (h : ¬ okF (rd_T32 x i)) :
    choose_Check.l0 (k + 2) x x (x.length : Int) i = some 3 := by
  simp only [choose_Check.l0]
  rw [if_pos h1, if_pos h0, if_pos h1]
  generalize rd_T32 x i = p at *
  unfold okF at h
  by_cases a0 : p.f0 < 0
  · rw [if_pos a0]; simp [choose_Check.j1]
  rw [if_neg a0]
  by_cases a1 : p.f0 > 2147483647
  · rw [if_pos a1]; simp [choose_Check.j1]
  rw [if_neg a1]
  by_cases a2 : p.f1 < (-4503599627370496)
  · rw [if_pos a2]; simp [choose_Check.j1]
  rw [if_neg a2]
  by_cases a3 : p.f1 > 4503599627370496
  · rw [if_pos a3]; simp [choose_Check.j1]
  rw [if_neg a3]
  by_cases a4 : p.f2 < 0
  · rw [if_pos a4]; simp [choose_Check.j1]
  rw [if_neg a4]
  by_cases a5 : p.f2 > 9007199254740992
  · rw [if_pos a5]; simp [choose_Check.j1]
  rw [if_neg a5]
  by_cases a6 : p.f3 < 0
  · rw [if_pos a6]; simp [choose_Check.j1]
  rw [if_neg a6]
  by_cases a7 : p.f3 > 9007199254740992
  · rw [if_pos a7]; simp [choose_Check.j1]
  rw [if_neg a7]
  by_cases a8 : p.f4 < 1
  · rw [if_pos a8]; simp [choose_Check.j1]
  rw [if_neg a8]
  have a9 : p.f4 > 16 := by omega
  rw [decide_eq_true a9]
  simp [choose_Check.j1]

theorem scan (x : List S32) (i : Int) (h0 : 0 ≤ i) (h1 : i < (x.length : Int)) (h12 : x.length ≤ 12) (R : Prop) (K : Nat) (y1 y2 y3 y4 : Int)
    (hc : ∀ k, K ≤ k → ∃ e, choose_Check.l0 k x x (x.length : Int) (i + 1) = some e ∧ (e = 0 ↔ R)) :
    ∀ (n : Nat) (j : Int) (k : Nat), j + n = i → 0 ≤ j → K + n + 1 ≤ k →
      ∃ e, choose_Check.l1 k x x (x.length : Int) i (x.take i.toNat) ((x.take i.toNat).length : Int) j (rd_T32 x i).f0 y1 y2 y3 y4 = some e ∧ (e = 0 ↔ (∀ m, j ≤ m → m < i → (rd_T32 x m).f0 ≠ (rd_T32 x i).f0) ∧ R) := by
  have hl : ((x.take i.toNat).length : Int) = i := by rw [List.length_take]; omega
  rw [hl]
  intro n
  induction n with
  | zero =>
    intro j k hj hj0 hk
    obtain ⟨k, rfl⟩ : ∃ m, k = m + 1 := ⟨k - 1, by omega⟩
    simp only [choose_Check.l1]
    rw [if_neg (by omega), Num.w64_in (by omega) (by omega)]
    obtain ⟨e, he, hR⟩ := hc k (by omega)
    exact ⟨e, he, hR.trans ⟨fun h => ⟨fun m a b => by omega, h⟩, fun h => h.2⟩⟩
  | succ n ih =>
    intro j k hj hj0 hk
    obtain ⟨k, rfl⟩ : ∃ m, k = m + 1 := ⟨k - 1, by omega⟩
    simp only [choose_Check.l1]
    rw [if_pos (by omega), if_pos hj0, if_pos (by omega), rd_take x i j hj0 (by omega)]
    by_cases he : (rd_T32 x j).f0 = (rd_T32 x i).f0
    · rw [if_pos he]
      exact ⟨10, rfl, by constructor; · intro h; cases h
                         · intro h; exact absurd he (h.1 j (by omega) (by omega))⟩
    · rw [if_neg he, Num.w64_in (by omega) (by omega)]
      obtain ⟨e, h2, h3⟩ := ih (j + 1) k (by omega) (by omega) (by omega)
      refine ⟨e, h2, h3.trans ⟨fun h => ⟨fun m a b => ?_, h.2⟩, fun h => ⟨fun m a b => h.1 m (by omega) b, h.2⟩⟩⟩
      by_cases hm : m = j
      · subst hm; exact he
      · exact h.1 m (by omega) b

theorem check_from (x : List S32) (h12 : x.length ≤ 12) : ∀ (n : Nat) (i : Int) (k : Nat), i + n = (x.length : Int) → 0 ≤ i → 20 * n + 1 ≤ k →
    ∃ e, choose_Check.l0 k x x (x.length : Int) i = some e ∧ (e = 0 ↔ ∀ j, i ≤ j → j < (x.length : Int) → okF (rd_T32 x j) ∧ ∀ m, 0 ≤ m → m < j → (rd_T32 x m).f0 ≠ (rd_T32 x j).f0) := by
  intro n
  induction n with
  | zero =>
    intro i k hi h0 hk
    obtain ⟨k, rfl⟩ : ∃ m, k = m + 1 := ⟨k - 1, by omega⟩
    simp only [choose_Check.l0]
    rw [if_neg (by omega)]
    exact ⟨0, rfl, fun _ j a b => by omega, fun _ => rfl⟩
  | succ n ih =>
    intro i k hi h0 hk
    obtain ⟨k, rfl⟩ : ∃ m, k = m + 2 := ⟨k - 2, by omega⟩
    by_cases ho : okF (rd_T32 x i)
    · rw [step_ok (k + 1) x i h0 (by omega) ho]
      simp only [choose_Check.j1]
      rw [if_neg (by decide), if_pos h0, if_pos (by omega)]
      show ∃ e, choose_Check.l1 k x x (x.length : Int) i (x.take i.toNat) ((x.take i.toNat).length : Int) 0 (rd_T32 x i).f0 _ _ _ _ = some e ∧ _
      obtain ⟨e, h2, h3⟩ := scan x i h0 (by omega) h12 _ (20 * n + 1) _ _ _ _ (fun k hk => ih (i + 1) k (by omega) (by omega) hk) i.toNat 0 k (by omega) (by omega) (by omega)
      refine ⟨e, h2, h3.trans ⟨fun h j a b => ?_, fun h => ⟨fun m a b => (h i (by omega) (by omega)).2 m a b, fun j a b => h j (by omega) b⟩⟩⟩
      by_cases hj : j = i
      · subst hj; exact ⟨ho, h.1⟩
      · exact h.2 j (by omega) b
    · rw [step_bad k x i h0 (by omega) ho]
      exact ⟨3, rfl, by constructor; · intro h; cases h
                        · intro h; exact absurd (h i (by omega) (by omega)).1 ho⟩
theorem valid_at {l : List S32} (h12 : l.length ≤ 12) : valid l ↔ ∀ j : Int, 0 ≤ j → j < (l.length : Int) → okF (rd_T32 l j) ∧ ∀ m, 0 ≤ m → m < j → (rd_T32 l m).f0 ≠ (rd_T32 l j).f0 := by
  constructor
  · intro h j h0 h1
    exact ⟨h.2.1 _ (rd_mem h0 h1), ids_at.1 h.2.2 j h0 h1⟩
  · intro h
    refine ⟨h12, fun p hp => ?_, ids_at.2 fun j h0 h1 => (h j h0 h1).2⟩
    obtain ⟨i, h0, h1, rfl⟩ := mem_rd hp
    exact (h i h0 h1).1
/-- choose.Check -/
theorem Check_tells (l : List S32) (k : Nat) (hk : 250 ≤ k) : ∃ e, choose_Check.f k l = some e ∧ (e = 0 ↔ valid l) := by
  unfold choose_Check.f
  by_cases h : (l.length : Int) > 12
  · rw [if_pos h]
    exact ⟨6, rfl, by constructor; · intro h; cases h
                      · intro h'; have := h'.1; omega⟩
  · rw [if_neg h]
    obtain ⟨e, h1, h2⟩ := check_from l (by omega) l.length 0 k (by omega) (by omega) (by omega)
    exact ⟨e, h1, h2.trans (valid_at (by omega)).symm⟩
theorem Check_ok {l : List S32} (h : valid l) (k : Nat) (hk : 250 ≤ k) : choose_Check.f k l = some 0 := by
  obtain ⟨e, h1, h2⟩ := Check_tells l k hk
  rw [h1, h2.2 h]
theorem Check_no {l : List S32} (h : ¬ valid l) (k : Nat) (hk : 250 ≤ k) : ∃ e, choose_Check.f k l = some e ∧ e ≠ 0 := by
  obtain ⟨e, h1, h2⟩ := Check_tells l k hk
  exact ⟨e, h1, fun he => h (h2.1 he)⟩


/-! the spans -/
def spn (p : S32) : S25 := ⟨wrap64 (p.f1 - p.f2), wrap64 (p.f1 + p.f2)⟩
def spans (l : List S32) : List S25 := l.map spn
def inS (s : S25) : Prop := s.f0 ≤ s.f1 ∧ -8000000000000000000 ≤ s.f0 ∧ s.f1 ≤ 8000000000000000000
theorem spn_in {p : S32} (h : okF p) : inS (spn p) := by
  unfold okF at h
  unfold inS spn
  rw [Num.w64_in (by omega) (by omega), Num.w64_in (by omega) (by omega)]
  show p.f1 - p.f2 ≤ p.f1 + p.f2 ∧ _ ≤ p.f1 - p.f2 ∧ p.f1 + p.f2 ≤ _
  omega
theorem spans_length (l : List S32) : (spans l).length = l.length := List.length_map ..
theorem take_snoc {l : List S32} {i : Nat} (h : i < l.length) : l.take (i + 1) = l.take i ++ [rd_T32 l (i : Int)] := by
  have hg := rd_get l (i : Int) (by omega) (by omega)
  rw [show ((i : Int)).toNat = i by omega] at hg
  rw [List.take_add_one, hg]
  rfl
theorem spans_snoc {l : List S32} {i : Nat} (h : i < l.length) : spans (l.take (i + 1)) = spans (l.take i) ++ [spn (rd_T32 l (i : Int))] := by
  unfold spans
  rw [take_snoc h, List.map_append]
  rfl
theorem rd25_get (s : List S25) (i : Nat) (h : i < s.length) : s[i]? = some (rd_T25 s (i : Int)) := by
  unfold rd_T25
  rw [List.getD_eq_getElem?_getD, show ((i : Int)).toNat = i by omega, List.getElem?_eq_getElem h]; rfl
theorem snoc25 {s : List S25} {i : Nat} (h : i < s.length) : s.take (i + 1) = s.take i ++ [rd_T25 s (i : Int)] := by
  rw [List.take_add_one, rd25_get s i h]
  rfl

/-! interval.valid -/
theorem drift_ok {x : S25} (h : inS x) : drift_Check.f x.f0 x.f1 = some 0 := by
  unfold inS at h
  unfold drift_Check.f
  rw [if_neg (by omega), if_neg (by omega), if_neg (by omega)]
theorem valid_l0 (s : List S25) (h48 : s.length ≤ 48) (hs : ∀ x ∈ s, inS x) : ∀ (n i k : Nat), i + n = s.length → n + 1 ≤ k → interval_valid.l0 k (s.take i) s (s.length : Int) (i : Int) = some s := by
  intro n
  induction n with
  | zero =>
    intro i k hi hk
    obtain ⟨k, rfl⟩ : ∃ m, k = m + 1 := ⟨k - 1, by omega⟩
    obtain rfl : i = s.length := by omega
    simp only [interval_valid.l0]
    rw [if_neg (by omega), List.take_length]
  | succ n ih =>
    intro i k hi hk
    obtain ⟨k, rfl⟩ : ∃ m, k = m + 1 := ⟨k - 1, by omega⟩
    simp only [interval_valid.l0]
    have hw : wrap64 ((i : Int) + 1) = ((i + 1 : Nat) : Int) := by rw [Num.w64_in (by omega) (by omega)]; omega
    have hm : rd_T25 s (i : Int) ∈ s := List.mem_of_getElem? (rd25_get s i (by omega))
    rw [if_pos (by omega), if_pos (by omega), if_pos (by omega), drift_ok (hs _ hm), Option.bind_some, if_pos rfl, if_pos (by rw [List.length_take]; omega), hw]
    have h2 := ih (i + 1) k (by omega) (by omega)
    rw [snoc25 (by omega)] at h2
    exact h2
theorem valid_ok (s : List S25) (h12 : s.length ≤ 12) (hs : ∀ x ∈ s, inS x) (k : Nat) (hk : 60 ≤ k) : interval_valid.f k s = some s := by
  unfold interval_valid.f
  rw [if_neg (by omega)]
  exact valid_l0 s (by omega) hs s.length 0 k (by omega) (by omega)

/-! interval.runs -/
def chg (s : List S25) : List S51 := s.flatMap fun x => [⟨x.f0, 1⟩, ⟨wrap64 (x.f1 + 1), -1⟩]
theorem chg_length (s : List S25) : (chg s).length = 2 * s.length := by
  induction s with
  | nil => rfl
  | cons a r ih =>
    have : chg (a :: r) = [⟨a.f0, 1⟩, ⟨wrap64 (a.f1 + 1), -1⟩] ++ chg r := by unfold chg; rw [List.flatMap_cons]
    rw [this, List.length_append, ih, List.length_cons]
    simp
    omega
theorem chg_snoc (s : List S25) (x : S25) : chg (s ++ [x]) = chg s ++ [⟨x.f0, 1⟩, ⟨wrap64 (x.f1 + 1), -1⟩] := by
  unfold chg
  rw [List.flatMap_append]
  simp
theorem runs_l0 (s : List S25) (h12 : s.length ≤ 12) (K : Nat) : ∀ (n i : Nat), i + n = s.length →
    interval_runs.l0 (K + n + 1) (chg (s.take i)) s (s.length : Int) (i : Int) = (interval_change_18.f (chg s)).bind fun t => interval_runs.l1 (K) t [] 0 t ((chg s).length : Int) 0 := by
  intro n
  induction n with
  | zero =>
    intro i hi
    obtain rfl : i = s.length := by omega
    simp only [interval_runs.l0, Nat.add_zero]
    rw [if_neg (by omega), List.take_length]
  | succ n ih =>
    intro i hi
    have e : K + (n + 1) + 1 = (K + n + 1) + 1 := by omega
    rw [e]
    simp only [interval_runs.l0]
    have hw : wrap64 ((i : Int) + 1) = ((i + 1 : Nat) : Int) := by rw [Num.w64_in (by omega) (by omega)]; omega
    have hl : (chg (s.take i)).length = 2 * i := by rw [chg_length, List.length_take]; omega
    rw [if_pos (by omega), if_pos (by omega), if_pos (by omega), Option.bind_some, if_pos (by rw [hl]; simp; omega), hw]
    have h2 := ih (i + 1) (by omega)
    rw [snoc25 (by omega), chg_snoc] at h2
    exact h2
theorem runs_l1 (t : List S51) (h : t.length ≤ 100) : ∀ (n : Nat) (i : Int) (x6 : List S44) (x7 : Int) (k : Nat), i + n = (t.length : Int) → 0 ≤ i → (x6.length : Int) ≤ i → n + 1 ≤ k →
    ∃ rs, interval_runs.l1 k t x6 x7 t (t.length : Int) i = some rs ∧ rs.length ≤ t.length := by
  intro n
  induction n with
  | zero =>
    intro i x6 x7 k hi h0 hx hk
    obtain ⟨k, rfl⟩ : ∃ m, k = m + 1 := ⟨k - 1, by omega⟩
    simp only [interval_runs.l1]
    rw [if_neg (by omega)]
    exact ⟨x6, rfl, by omega⟩
  | succ n ih =>
    intro i x6 x7 k hi h0 hx hk
    obtain ⟨k, rfl⟩ : ∃ m, k = m + 1 := ⟨k - 1, by omega⟩
    simp only [interval_runs.l1]
    have hw : wrap64 (i + 1) = i + 1 := Num.w64_in (by omega) (by omega)
    rw [if_pos (by omega), if_pos h0, if_pos (by omega), hw]
    by_cases h1 : i + 1 < (t.length : Int)
    · rw [if_pos h1, if_pos (by omega)]
      by_cases h2 : (rd_T51 t (i + 1)).f0 > (rd_T51 t i).f0
      · rw [if_pos h2, if_pos (by omega)]
        exact ih (i + 1) _ _ k (by omega) (by omega) (by rw [List.length_append, List.length_singleton]; omega) (by omega)
      · rw [if_neg h2]
        exact ih (i + 1) _ _ k (by omega) (by omega) (by omega) (by omega)
    · rw [if_neg h1]
      exact ih (i + 1) _ _ k (by omega) (by omega) (by omega) (by omega)
theorem runs_f (s : List S25) (h12 : s.length ≤ 12) (hs : ∀ x ∈ s, inS x) (K : Nat) (hK : 60 ≤ K) :
    interval_runs.f (K + s.length + 1) s = (interval_change_18.f (chg s)).bind fun t => interval_runs.l1 K t [] 0 t ((chg s).length : Int) 0 := by
  unfold interval_runs.f
  rw [valid_ok s h12 hs _ (by omega), Option.bind_some]
  exact runs_l0 s h12 K s.length 0 (by omega)
theorem runs_ok (s : List S25) (h12 : s.length ≤ 12) (hs : ∀ x ∈ s, inS x) : ∃ rs, (∀ k, 200 ≤ k → interval_runs.f k s = some rs) ∧ rs.length ≤ 100 := by
  have h1 := runs_f s h12 hs (199 - s.length) (by omega)
  rw [show 199 - s.length + s.length + 1 = 200 by omega] at h1
  have hl := chg_length s
  have hc : interval_change_18.f (chg s) = some (Ta.sortS (chg s)) := by
    unfold interval_change_18.f
    rw [if_pos (by omega)]
  rw [hc, Option.bind_some] at h1
  have hsz := Ta.sortS_size (chg s)
  obtain ⟨rs, h2, h3⟩ := runs_l1 (Ta.sortS (chg s)) (by omega) (Ta.sortS (chg s)).length 0 [] 0 (199 - s.length) (by omega) (by omega) (by simp) (by omega)
  rw [hsz] at h2
  rw [h2] at h1
  exact ⟨rs, fun k hk => up (fun k => interval_runs.mono s k) h1 hk, by omega⟩

/-! interval.Hull, interval.Honest -/
def hullv (rs : List S44) (need : Int) : Int × Int × Bool := if need < 1 ∨ Th.idx need rs < 0 then (0, 0, false) else ((rd_T44 rs (Th.idx need rs)).f0, (rd_T44 rs.reverse (Th.idx need rs.reverse)).f1, true)
theorem idx_any (need : Int) (rs : List S44) : decide (0 ≤ Th.idx need rs) = rs.any fun y => decide (need ≤ y.f2) := Lib.idxBy_nonneg_iff (fun _ (y : S44) => decide (need ≤ y.f2)) rs default
theorem idx_rev {need : Int} {rs : List S44} (h : 0 ≤ Th.idx need rs) : 0 ≤ Th.idx need rs.reverse := by
  have h1 := idx_any need rs
  have h2 := idx_any need rs.reverse
  rw [List.any_reverse, ← h1, decide_eq_true h] at h2
  exact of_decide_eq_true h2
theorem Hull_tells {s : List S25} {rs : List S44} (hr : ∀ k, 200 ≤ k → interval_runs.f k s = some rs) (hl : rs.length ≤ 100) (need : Int) (k : Nat) (hk : 200 ≤ k) : interval_Hull.f k s need = some (hullv rs need) := by
  unfold interval_Hull.f hullv
  rw [hr k hk, Option.bind_some]
  by_cases h : need < 1 ∨ Th.idx need rs < 0
  · rw [if_pos h, if_pos h]
  · rw [if_neg h, if_neg h]
    have h0 : 0 ≤ Th.idx need rs := by omega
    have h1 := idx_rev h0
    have hv : interval_run_16.f rs = some rs.reverse := by
      unfold interval_run_16.f
      rw [if_pos (by omega)]
    rw [hv, Option.bind_some, if_neg (by omega)]
theorem Honest_tells {s : List S25} {rs : List S44} (h12 : s.length ≤ 12) (hs : ∀ x ∈ s, inS x) (hr : ∀ k, 200 ≤ k → interval_runs.f k s = some rs) (hl : rs.length ≤ 100) (f : Int) (h0 : 0 ≤ f) (h1 : f < (s.length : Int)) (k : Nat) (hk : 200 ≤ k) :
    interval_Honest.f k s f = some (hullv rs ((s.length : Int) - f)) := by
  unfold interval_Honest.f
  rw [valid_ok s h12 hs k (by omega), Option.bind_some, if_neg (by omega), if_neg (by omega), Num.w64_in (by omega) (by omega), Hull_tells hr hl _ k hk, Option.bind_some]

/-! choose.Select -/
theorem Select_l0 (l : List S32) (h12 : l.length ≤ 12) (K : Nat) : ∀ (n i : Nat), i + n = l.length → choose_Select.l0 (K + n + 1) l (spans (l.take i)) l (l.length : Int) (i : Int) = choose_Select.l1 K l (spans l) 0 := by
  intro n
  induction n with
  | zero =>
    intro i hi
    obtain rfl : i = l.length := by omega
    simp only [choose_Select.l0, Nat.add_zero]
    rw [if_neg (by omega), List.take_length]
  | succ n ih =>
    intro i hi
    have e : K + (n + 1) + 1 = (K + n + 1) + 1 := by omega
    rw [e]
    simp only [choose_Select.l0]
    have hw : wrap64 ((i : Int) + 1) = ((i + 1 : Nat) : Int) := by rw [Num.w64_in (by omega) (by omega)]; omega
    have hl : (spans (l.take i)).length = i := by rw [spans_length, List.length_take]; omega
    have hsp : ∀ p : S32, choose_span.f p.f0 p.f1 p.f2 p.f3 p.f4 = some (wrap64 (p.f1 - p.f2), wrap64 (p.f1 + p.f2)) := fun p => rfl
    rw [if_pos (by omega), if_pos (by omega), if_pos (by omega), hsp, Option.bind_some, if_pos (by omega), hw]
    have h2 := ih (i + 1) (by omega)
    rw [spans_snoc (by omega)] at h2
    exact h2
theorem where_tells (l : List S32) (h12 : l.length ≤ 12) (lo hi : Int) : api_Cand.f l lo hi = some (Tw.sel lo hi l l.length) := by
  unfold api_Cand.f
  rw [if_pos (by omega)]
theorem Select_l1 {l : List S32} {rs : List S44} (h12 : l.length ≤ 12) (hr : ∀ k, 200 ≤ k → interval_runs.f k (spans l) = some rs) (hl : rs.length ≤ 100) : ∀ (n : Nat) (a : Int) (k : Nat), a + n = (l.length : Int) + 1 → 0 ≤ a → 200 + n + 1 ≤ k →
    choose_Select.l1 k l (spans l) a = some ([], 0, 0, 11) ∨ ∃ b lo hi, 0 ≤ b ∧ 2 * b < (l.length : Int) ∧ hullv rs ((l.length : Int) - b) = (lo, hi, true) ∧ (l.length : Int) - ((Tw.sel lo hi l l.length).length : Int) ≤ b ∧ choose_Select.l1 k l (spans l) a = some (Tw.sel lo hi l l.length, lo, hi, 0) := by
  intro n
  induction n with
  | zero =>
    intro a k ha h0 hk
    obtain ⟨k, rfl⟩ : ∃ m, k = m + 1 := ⟨k - 1, by omega⟩
    left
    simp only [choose_Select.l1]
    rw [Num.w64_in (by omega) (by omega), if_neg (by omega)]
  | succ n ih =>
    intro a k ha h0 hk
    obtain ⟨k, rfl⟩ : ∃ m, k = m + 1 := ⟨k - 1, by omega⟩
    simp only [choose_Select.l1]
    rw [Num.w64_in (n := 2 * a) (by omega) (by omega)]
    by_cases h1 : 2 * a < (l.length : Int)
    · rw [if_pos h1, Num.w64_in (n := (l.length : Int) - a) (by omega) (by omega), Hull_tells hr hl _ k (by omega), Option.bind_some, Num.w64_in (n := a + 1) (by omega) (by omega)]
      have hnext := ih (a + 1) k (by omega) (by omega) (by omega)
      obtain ⟨lo, hi, ok, hv⟩ : ∃ lo hi ok, hullv rs ((l.length : Int) - a) = (lo, hi, ok) := ⟨_, _, _, rfl⟩
      rw [hv]
      cases ok with
      | false => rw [if_neg (show ¬ ((lo, hi, false) : Int × Int × Bool).2.2 = true by simp)]; exact hnext
      | true =>
        rw [if_pos rfl, where_tells l h12]
        show ((some (Tw.sel lo hi l l.length)).bind _ = _) ∨ _
        have hsl := Tw.sel_length lo hi l l.length
        rw [Option.bind_some, Num.w64_in (n := (l.length : Int) - ((Tw.sel lo hi l l.length).length : Int)) (by omega) (by omega)]
        by_cases h2 : (l.length : Int) - ((Tw.sel lo hi l l.length).length : Int) ≤ a
        · right
          rw [if_pos h2]
          exact ⟨a, lo, hi, h0, h1, hv, h2, rfl⟩
        · rw [if_neg h2]; exact hnext
    · left
      rw [if_neg h1]

/-! the example -/
/-- a sorted list is one alone -/
theorem sorted_unique : ∀ (l m : List S51), l.Perm m → (∀ (i j : Nat) (x y : S51), i < j → l[i]? = some x → l[j]? = some y → x.f0 < y.f0) → (∀ (i j : Nat) (x y : S51), i < j → m[i]? = some x → m[j]? = some y → x.f0 < y.f0) → l = m := by
  have irr : ∀ x : S51, ¬ x.f0 < x.f0 := fun x => by omega
  have tr : ∀ x y : S51, x.f0 < y.f0 → y.f0 < x.f0 → False := fun x y h k => by omega
  intro l
  induction l with
  | nil => intro m hp _ _; exact hp.nil_eq
  | cons a r ih =>
    intro m hp hl hm
    cases m with
    | nil => exact absurd hp.length_eq (by simp)
    | cons b s =>
      have e : a = b := by
        have h1 : a ∈ b :: s := hp.subset (List.mem_cons_self)
        have h2 : b ∈ a :: r := hp.symm.subset (List.mem_cons_self)
        rcases List.mem_cons.1 h1 with h1 | h1
        · exact h1
        · rcases List.mem_cons.1 h2 with h2 | h2
          · exact h2.symm
          · exfalso
            obtain ⟨i, hi⟩ := List.mem_iff_getElem?.1 h1
            obtain ⟨j, hj⟩ := List.mem_iff_getElem?.1 h2
            exact tr _ _ (hm 0 (i + 1) b a (by omega) rfl (by simpa using hi)) (hl 0 (j + 1) a b (by omega) rfl (by simpa using hj))
      subst e
      rw [ih s (List.Perm.cons_inv hp) (fun i j x y hij hx hy => hl (i + 1) (j + 1) x y (by omega) (by simpa using hx) (by simpa using hy)) (fun i j x y hij hx hy => hm (i + 1) (j + 1) x y (by omega) (by simpa using hx) (by simpa using hy))]


open Go.Sort in
theorem sortS_perm (l : List S51) : (Ta.sortS l).Perm l := by
  have hp := Ta.srt_perm l.toArray
  have h3 := hp.2.2
  have e1 : (Ta.srt l.toArray).extract 0 l.toArray.size = Ta.srt l.toArray := by
    have hq : ∀ (a : Array S51) n, a.size = n → a.extract 0 n = a := by intro a n h; subst h; simp
    exact hq _ _ hp.1
  rw [e1] at h3
  simpa [Ta.sortS] using h3
open Go.Sort in
theorem sortS_sorted (l : List S51) (i j : Nat) (hij : i < j) (x y : S51) (hx : (Ta.sortS l)[i]? = some x) (hy : (Ta.sortS l)[j]? = some y) : ¬ y.f0 < x.f0 := by
  have h0 := (pdq_sorts (Go.Proofs.ltOf Ta.cfC) Ta.swoC l.toArray 0 l.toArray.size (Lib.bitLen l.toArray.size) true true (Nat.zero_le _) (Nat.le_refl _) (Or.inl rfl)).2
  have hs : (Ta.srt l.toArray).size = l.toArray.size := Ta.srt_size _
  have hj : j < (Ta.srt l.toArray).size := by
    have := (List.getElem?_eq_some_iff.1 hy).1
    unfold Ta.sortS at this
    rwa [Array.length_toList] at this
  have h : Go.Proofs.ltOf Ta.cfC (Ta.srt l.toArray)[j]! (Ta.srt l.toArray)[i]! = false := h0 i j (Nat.zero_le _) hij (by rw [← hs]; exact hj)
  unfold Ta.sortS at hx hy
  rw [Array.getElem?_toList] at hx hy
  rw [getElem!_pos _ j hj, getElem!_pos _ i (by omega)] at h
  rw [Array.getElem?_eq_getElem hj] at hy
  rw [Array.getElem?_eq_getElem (by omega)] at hx
  rw [Option.some.inj hy, Option.some.inj hx, Ta.ltC] at h
  simpa using h
def L3 : List S32 := [⟨1, 0, 10, 0, 1⟩, ⟨2, 4, 10, 0, 1⟩, ⟨3, 100, 5, 0, 1⟩]
def s3 : List S25 := [⟨-10, 10⟩, ⟨-6, 14⟩, ⟨95, 105⟩]
def c3 : List S51 := [⟨-10, 1⟩, ⟨11, -1⟩, ⟨-6, 1⟩, ⟨15, -1⟩, ⟨95, 1⟩, ⟨106, -1⟩]
def o3 : List S51 := [⟨-10, 1⟩, ⟨-6, 1⟩, ⟨11, -1⟩, ⟨15, -1⟩, ⟨95, 1⟩, ⟨106, -1⟩]
def r3 : List S44 := [⟨-10, -7, 1⟩, ⟨-6, 10, 2⟩, ⟨11, 14, 1⟩, ⟨15, 94, 0⟩, ⟨95, 105, 1⟩]
theorem pw_get {l : List S51} (h : l.Pairwise fun x y => x.f0 < y.f0) (i j : Nat) (x y : S51) (hij : i < j) (hx : l[i]? = some x) (hy : l[j]? = some y) : x.f0 < y.f0 := by
  obtain ⟨hi, rfl⟩ := List.getElem?_eq_some_iff.1 hx
  obtain ⟨hj, rfl⟩ := List.getElem?_eq_some_iff.1 hy
  exact List.pairwise_iff_getElem.1 h i j hi hj hij
theorem c3_perm : c3.Perm o3 := by
  unfold c3 o3
  exact List.Perm.cons _ (List.Perm.swap _ _ _)
theorem sort_c3 : Ta.sortS c3 = o3 := by
  have ho : o3.Pairwise fun x y => x.f0 < y.f0 := by unfold o3; simp
  have hne : (Ta.sortS c3).Pairwise fun x y => x.f0 ≠ y.f0 := by
    refine List.Perm.pairwise ((sortS_perm c3).trans c3_perm).symm ?_ (fun {_ _} h => Ne.symm h)
    exact ho.imp fun h => by omega
  refine sorted_unique _ _ ((sortS_perm c3).trans c3_perm) (fun i j x y a b c => ?_) (fun i j x y a b c => pw_get ho i j x y a b c)
  have h1 := sortS_sorted c3 i j a x y b c
  obtain ⟨hi, e1⟩ := List.getElem?_eq_some_iff.1 b
  obtain ⟨hj, e2⟩ := List.getElem?_eq_some_iff.1 c
  have h2 := List.pairwise_iff_getElem.1 hne i j hi hj a
  rw [e1, e2] at h2
  omega
theorem spans3 : spans L3 = s3 := by kernel_rfl
theorem chg3 : chg s3 = c3 := by kernel_rfl
theorem s3_in : ∀ x ∈ s3, inS x := by
  intro x hx
  unfold s3 at hx
  simp only [List.mem_cons, List.not_mem_nil, or_false] at hx
  rcases hx with rfl | rfl | rfl <;> (unfold inS; decide)
theorem runs3 (k : Nat) (hk : 200 ≤ k) : interval_runs.f k (spans L3) = some r3 := by
  rw [spans3]
  have h1 := runs_f s3 (by decide) s3_in 196 (by omega)
  have hc : interval_change_18.f (chg s3) = some o3 := by
    rw [chg3]
    unfold interval_change_18.f
    rw [if_pos (by decide), sort_c3]
  rw [hc, Option.bind_some] at h1
  have h2 : interval_runs.l1 196 o3 [] 0 o3 ((chg s3).length : Int) 0 = some r3 := by kernel_rfl
  rw [h2] at h1
  exact up (fun k => interval_runs.mono s3 k) h1 hk
theorem Select3 : choose_Select.f 300 L3 = some ([0, 1], -6, 10, 0) := by
  have hc : choose_Check.f 300 L3 = some 0 := by kernel_rfl
  have h0 : choose_Select.l0 300 L3 [] L3 (L3.length : Int) 0 = choose_Select.l1 296 L3 (spans L3) 0 := Select_l0 L3 (by decide) 296 3 0 rfl
  have e1 : hullv r3 3 = (0, 0, false) := by kernel_rfl
  have e2 : hullv r3 2 = (-6, 10, true) := by kernel_rfl
  have hl : r3.length ≤ 100 := by decide
  unfold choose_Select.f
  rw [hc, Option.bind_some, if_pos rfl, h0]
  have w0 : wrap64 (2 * 0) = 0 := by kernel_rfl
  have w1 : wrap64 ((L3.length : Int) - 0) = 3 := by kernel_rfl
  have w2 : wrap64 ((L3.length : Int) - 1) = 2 := by kernel_rfl
  have w3 : wrap64 (0 + 1) = 1 := by kernel_rfl
  have w4 : wrap64 (2 * 1) = 2 := by kernel_rfl
  have st : ∀ (k : Nat) (a : Int), choose_Select.l1 (k + 1) L3 (spans L3) a = (if (wrap64 (2 * a)) < (L3.length : Int) then ((interval_Hull.f k (spans L3) (wrap64 ((L3.length : Int) - a))).bind fun bt152 => (if bt152.2.2 = true then ((api_Cand.f L3 bt152.1 bt152.2.1).bind fun t156 => (if (wrap64 ((L3.length : Int) - (t156.length : Int))) ≤ a then (some (t156, bt152.1, bt152.2.1, 0)) else (choose_Select.l1 k L3 (spans L3) (wrap64 (a + 1))))) else (choose_Select.l1 k L3 (spans L3) (wrap64 (a + 1))))) else (some (([] : List Int), 0, 0, 11))) := fun k a => by simp only [choose_Select.l1]
  rw [st 295 0, w0, if_pos (by decide), w1, Hull_tells runs3 hl 3 295 (by omega), Option.bind_some, e1, if_neg (by decide), w3, st 294 1, w4, if_pos (by decide), w2, Hull_tells runs3 hl 2 294 (by omega), Option.bind_some, e2, if_pos rfl, where_tells L3 (by decide)]
  have e3 : Tw.sel (-6) 10 L3 L3.length = [0, 1] := by kernel_rfl
  show (some (Tw.sel (-6) 10 L3 L3.length)).bind _ = _
  have w5 : wrap64 ((L3.length : Int) - (([0, 1] : List Int).length : Int)) = 1 := by kernel_rfl
  rw [e3, Option.bind_some, w5, if_pos (by decide)]
theorem awake_ok (k : Nat) (hk : 300 ≤ k) : timesynctop_awake10.f k = some true := by
  suffices h300 : timesynctop_awake10.f 300 = some true from up (fun k => timesynctop_awake10.mono k) h300 hk
  unfold timesynctop_awake10.f
  have h : choose_Select.f 300 [⟨1, 0, 10, 0, 1⟩, ⟨2, 4, 10, 0, 1⟩, ⟨3, 100, 5, 0, 1⟩] = some ([0, 1], -6, 10, 0) := Select3
  rw [h, Option.bind_some]
  simp [rd]

/-! the law -/
theorem Top_l0 (l : List S32) (h12 : l.length ≤ 12) (picked : List Int) (lo hi : Int) (K : Nat) : ∀ (n i : Nat), i + n = l.length → timesynctop_TopChimers.l0 (K + n + 1) l picked (spans (l.take i)) l (l.length : Int) (i : Int) lo hi = timesynctop_TopChimers.l1 K l picked (spans l) false 0 lo hi := by
  intro n
  induction n with
  | zero =>
    intro i hi
    obtain rfl : i = l.length := by omega
    simp only [timesynctop_TopChimers.l0, Nat.add_zero]
    rw [if_neg (by omega), List.take_length]
  | succ n ih =>
    intro i hi
    have e : K + (n + 1) + 1 = (K + n + 1) + 1 := by omega
    rw [e]
    simp only [timesynctop_TopChimers.l0]
    have hw : wrap64 ((i : Int) + 1) = ((i + 1 : Nat) : Int) := by rw [Num.w64_in (by omega) (by omega)]; omega
    have hl : (spans (l.take i)).length = i := by rw [spans_length, List.length_take]; omega
    rw [if_pos (by omega), if_pos (by omega), if_pos (by omega), if_pos (by omega), hw]
    have h2 := ih (i + 1) (by omega)
    rw [spans_snoc (by omega)] at h2
    exact h2
theorem rdi_mem {xs : List Int} {i : Int} (h0 : 0 ≤ i) (h1 : i < (xs.length : Int)) : rd xs i ∈ xs := by
  unfold rd
  have hi : i.toNat < xs.length := by omega
  rw [List.getD_eq_getElem?_getD, List.getElem?_eq_getElem hi]
  exact List.getElem_mem hi
theorem Top_l2 (l : List S32) (picked : List Int) (lo hi : Int) (b : Bool) (h100 : picked.length ≤ 100) (hp : ∀ j ∈ picked, 0 ≤ j ∧ j < (l.length : Int) ∧ lo ≤ (rd_T32 l j).f1 ∧ (rd_T32 l j).f1 ≤ hi) : ∀ (n : Nat) (i : Int) (k : Nat), i + n = (picked.length : Int) → 0 ≤ i → n + 1 ≤ k →
    timesynctop_TopChimers.l2 k l b picked (picked.length : Int) i lo hi = some b := by
  intro n
  induction n with
  | zero =>
    intro i k hi h0 hk
    obtain ⟨k, rfl⟩ : ∃ m, k = m + 1 := ⟨k - 1, by omega⟩
    simp only [timesynctop_TopChimers.l2]
    rw [if_neg (by omega)]
  | succ n ih =>
    intro i k hi h0 hk
    obtain ⟨k, rfl⟩ : ∃ m, k = m + 1 := ⟨k - 1, by omega⟩
    simp only [timesynctop_TopChimers.l2]
    have hm := hp _ (rdi_mem h0 (show i < (picked.length : Int) by omega))
    rw [if_pos (by omega), if_pos h0, if_pos (by omega), if_neg (by omega), if_neg (by omega), if_pos hm.1, if_pos hm.2.1, if_neg (by omega), if_neg (by omega), Num.w64_in (by omega) (by omega)]
    exact ih (i + 1) k (by omega) (by omega) (by omega)
theorem sel_mem (lo hi : Int) (l : List S32) : ∀ k : Nat, ∀ j ∈ Tw.sel lo hi l k, 0 ≤ j ∧ j < (k : Int) ∧ lo ≤ (rd_T32 l j).f1 ∧ (rd_T32 l j).f1 ≤ hi
  | 0, j, h => by cases h
  | k + 1, j, h => by
    have ih := sel_mem lo hi l k
    simp only [Tw.sel] at h
    split at h
    · rename_i hc
      rw [List.mem_append, List.mem_singleton] at h
      rcases h with h | h
      · have := ih j h
        exact ⟨this.1, by omega, this.2.2⟩
      · subst h
        unfold Tw.inn at hc
        rw [Bool.and_eq_true, decide_eq_true_eq, decide_eq_true_eq] at hc
        exact ⟨by omega, by omega, hc⟩
    · have := ih j h
      exact ⟨this.1, by omega, this.2.2⟩
theorem Top_l1 {l : List S32} {rs : List S44} (h12 : l.length ≤ 12) (hs : ∀ x ∈ spans l, inS x) (hr : ∀ k, 200 ≤ k → interval_runs.f k (spans l) = some rs) (hl : rs.length ≤ 100) (lo hi b : Int) (b0 : 0 ≤ b) (b1 : 2 * b < (l.length : Int)) (hv : hullv rs ((l.length : Int) - b) = (lo, hi, true))
    (hle : (l.length : Int) - ((Tw.sel lo hi l l.length).length : Int) ≤ b) : ∀ (n : Nat) (f : Int) (x9 : Bool) (k : Nat), f + n = (l.length : Int) + 1 → 0 ≤ f → (x9 = true ∨ f ≤ b) → 230 + n + 1 ≤ k →
    timesynctop_TopChimers.l1 k l (Tw.sel lo hi l l.length) (spans l) x9 f lo hi = some true := by
  have hsl := Tw.sel_length lo hi l l.length
  have hspl := spans_length l
  have hend : ∀ k, 30 ≤ k → timesynctop_TopChimers.l2 k l true (Tw.sel lo hi l l.length) ((Tw.sel lo hi l l.length).length : Int) 0 lo hi = some true := fun k hk => Top_l2 l _ lo hi true (by omega) (sel_mem lo hi l l.length) (Tw.sel lo hi l l.length).length 0 k (by omega) (by omega) (by omega)
  intro n
  induction n with
  | zero =>
    intro f x9 k hf h0 hx hk
    obtain ⟨k, rfl⟩ : ∃ m, k = m + 1 := ⟨k - 1, by omega⟩
    simp only [timesynctop_TopChimers.l1]
    rw [Num.w64_in (n := 2 * f) (by omega) (by omega), if_neg (by omega)]
    rcases hx with rfl | h
    · exact hend k (by omega)
    · omega
  | succ n ih =>
    intro f x9 k hf h0 hx hk
    obtain ⟨k, rfl⟩ : ∃ m, k = m + 1 := ⟨k - 1, by omega⟩
    simp only [timesynctop_TopChimers.l1]
    rw [Num.w64_in (n := 2 * f) (by omega) (by omega)]
    by_cases h1 : 2 * f < (l.length : Int)
    · rw [if_pos h1, Honest_tells (by omega) hs hr hl f h0 (by omega) k (by omega), Option.bind_some, hspl, Num.w64_in (n := f + 1) (by omega) (by omega), Num.w64_in (n := (l.length : Int) - ((Tw.sel lo hi l l.length).length : Int)) (by omega) (by omega)]
      have hnext := fun x9 hx => ih (f + 1) x9 k (by omega) (by omega) hx (by omega)
      cases x9 with
      | true =>
        rw [if_pos rfl]
        exact hnext true (Or.inl rfl)
      | false =>
        have hfb : f ≤ b := by
          rcases hx with h | h
          · cases h
          · exact h
        rw [if_neg (by decide)]
        by_cases he : f = b
        · subst he
          rw [hv]
          rw [if_pos rfl, if_pos (by simp), decide_eq_true hle]
          exact hnext true (Or.inl rfl)
        · have hn2 := fun x9 => hnext x9 (Or.inr (by omega))
          split
          · split
            · exact hn2 _
            · exact hn2 _
          · exact hn2 _
    · rw [if_neg h1]
      rcases hx with rfl | h
      · exact hend k (by omega)
      · omega

theorem Top_true (l : List S32) (h100 : l.length ≤ 100) : timesynctop_TopChimers.f 1000 l = some true := by
  unfold timesynctop_TopChimers.f
  rw [if_neg (by omega)]
  by_cases hv : valid l
  · have h12 := hv.1
    have hs : ∀ x ∈ spans l, inS x := by
      intro x hx
      unfold spans at hx
      rw [List.mem_map] at hx
      obtain ⟨p, hp, rfl⟩ := hx
      exact spn_in (hv.2.1 p hp)
    have hspl := spans_length l
    obtain ⟨rs, hr, hl⟩ := runs_ok (spans l) (by omega) hs
    have hsel : choose_Select.f 1000 l = choose_Select.l1 (999 - l.length) l (spans l) 0 := by
      unfold choose_Select.f
      rw [Check_ok hv _ (by omega), Option.bind_some, if_pos rfl]
      have h := Select_l0 l h12 (999 - l.length) l.length 0 (by omega)
      rw [show 999 - l.length + l.length + 1 = 1000 by omega] at h
      exact h
    rw [hsel]
    rcases Select_l1 h12 hr hl (l.length + 1) 0 (999 - l.length) (by omega) (by omega) (by omega) with h | ⟨b, lo, hi, b0, b1, hhv, hle, h⟩
    · rw [h, Option.bind_some, if_neg (show ¬ (([], 0, 0, 11) : List Int × Int × Int × Int).2.2.2 = 0 by decide), awake_ok _ (by omega)]
      rfl
    · rw [h, Option.bind_some, if_pos rfl]
      have h2 := Top_l0 l h12 (Tw.sel lo hi l l.length) lo hi (999 - l.length) l.length 0 (by omega)
      rw [show 999 - l.length + l.length + 1 = 1000 by omega] at h2
      have h3 := Top_l1 h12 hs hr hl lo hi b b0 b1 hhv hle (l.length + 1) 0 false (999 - l.length) (by omega) (by omega) (Or.inr b0) (by omega)
      exact h2.trans h3
  · obtain ⟨e, h1, h2⟩ := Check_no hv 1000 (by omega)
    have hsel : choose_Select.f 1000 l = some ([], 0, 0, e) := by
      unfold choose_Select.f
      rw [h1, Option.bind_some, if_neg h2]
    rw [hsel, Option.bind_some, if_neg (show ¬ (([], 0, 0, e) : List Int × Int × Int × Int).2.2.2 = 0 from h2), awake_ok _ (by omega)]
    rfl
end Go.Proofs.Ytfnfmlcngleemaa.Tp
