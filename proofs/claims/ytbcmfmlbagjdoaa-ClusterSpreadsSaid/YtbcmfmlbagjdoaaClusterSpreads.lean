/- ClusterSpreads. -/
import Derived.Test.YtbcmfmlbagjdoaaCu
import Derived.Test.YtbcmfmlbagjdoaaPAllx52
namespace Go.Proofs.Ytbcmfmlbagjdoaa.Cq
open Go Go.RowKit Go.Proofs.Ytbcmfmlbagjdoaa.PAll Go.Proofs.Ytbcmfmlbagjdoaa.Ca Go.Proofs.YtbcmfmlbagjdoaaW.PrintWords Go.Proofs.YtbcmfmlbagjdoaaW.PrintMore
set_option linter.unusedVariables false
set_option linter.unusedSimpArgs false

/-- how far two numbers are apart -/
def ab (a b : Int) : Int := if a < b then b - a else a - b
theorem dist_ab (a b : Int) : dist a b = if 1073741824 < ab a b then 1073741824 else ab a b := rfl
/-- the greatest distance -/
def gr (o : Int) (l : List S34) : Nat → Int
  | 0 => 0
  | k + 1 => mx (mx (gr o l k) (wrap64 (((rd_T34 l (k : Int)).f1) - o))) (wrap64 (-(wrap64 (((rd_T34 l (k : Int)).f1) - o))))
theorem mx_ge (a b : Int) : a ≤ mx a b ∧ b ≤ mx a b := by unfold mx; split <;> omega
theorem mx_le {a b c : Int} (h : a ≤ c) (k : b ≤ c) : mx a b ≤ c := by unfold mx; split <;> omega
def inO (o : Int) : Prop := -4503599627370496 ≤ o ∧ o ≤ 4503599627370496
theorem wd {a o : Int} (h : inO a) (k : inO o) : wrap64 (a - o) = a - o ∧ wrap64 (-(wrap64 (a - o))) = o - a := by
  unfold inO at *
  have e : wrap64 (a - o) = a - o := Num.w64_in (by omega) (by omega)
  rw [e, Num.w64_in (by omega) (by omega)]
  exact ⟨rfl, by omega⟩
theorem gr_in {o : Int} {l : List S34} (ho : inO o) (hl : ∀ j : Nat, j < l.length → inO (rd_T34 l (j : Int)).f1) : ∀ k : Nat, k ≤ l.length → 0 ≤ gr o l k ∧ ∀ j : Nat, j < k → ab (rd_T34 l (j : Int)).f1 o ≤ gr o l k
  | 0, _ => ⟨Int.le_refl _, fun j h => by omega⟩
  | k + 1, hk => by
    have ih := gr_in ho hl k (by omega)
    have e := wd (hl k (by omega)) ho
    simp only [gr]
    rw [e.2, e.1]
    have m1 := mx_ge (gr o l k) ((rd_T34 l (k : Int)).f1 - o)
    have m2 := mx_ge (mx (gr o l k) ((rd_T34 l (k : Int)).f1 - o)) (o - (rd_T34 l (k : Int)).f1)
    refine ⟨by omega, fun j hj => ?_⟩
    by_cases h : j = k
    · subst h
      unfold ab
      split <;> omega
    · have := ih.2 j (by omega)
      omega
theorem gr_le {o : Int} {l : List S34} (B : Int) (hB : 0 ≤ B) (ho : inO o) (hl : ∀ j : Nat, j < l.length → inO (rd_T34 l (j : Int)).f1) : ∀ k : Nat, k ≤ l.length → (∀ j : Nat, j < k → ab (rd_T34 l (j : Int)).f1 o ≤ B) → gr o l k ≤ B
  | 0, _, _ => hB
  | k + 1, hk, h => by
    have ih := gr_le B hB ho hl k (by omega) (fun j hj => h j (by omega))
    have e := wd (hl k (by omega)) ho
    have h2 := h k (by omega)
    simp only [gr]
    rw [e.2, e.1]
    unfold ab at h2
    refine mx_le (mx_le ih ?_) ?_
    · split at h2 <;> omega
    · split at h2 <;> omega

/-- a candidate whose offset is shifted -/
def sh (s : Int) (p : S34) : S34 := ⟨p.f0, wrap64 (p.f1 + s), p.f2, p.f3, p.f4⟩
theorem rd_map (l : List S34) (s : Int) (i : Int) (h0 : 0 ≤ i) (h1 : i < (l.length : Int)) : rd_T34 (l.map (sh s)) i = sh s (rd_T34 l i) := by
  have h := rd_get l i h0 h1
  have h2 : (l.map (sh s))[i.toNat]? = some (sh s (rd_T34 l i)) := by rw [List.getElem?_map, h]; rfl
  have := rd_of h2
  rwa [show ((i.toNat : Nat) : Int) = i by omega] at this

theorem spr_l0 (x : List S34) (i shift s : Int) (h12 : x.length ≤ 12) (h0 : 0 ≤ i) (h1 : i < (x.length : Int)) (K : Nat)
    (hs0 : 0 ≤ s) (hs1 : s ≤ 1073741824) (hs2 : (x.length : Int) > 1 → s ≤ gr (rd_T34 x i).f1 x x.length)
    (hc : ∀ k, K ≤ k → timesynclaw25_ClusterSpreads.j2 k x i s (gr (rd_T34 x i).f1 x x.length) (x.map (sh shift)) false = some true) :
    ∀ (n j k : Nat), j + n = x.length → K + n + 1 ≤ k → timesynclaw25_ClusterSpreads.l0 k x i shift s (gr (rd_T34 x i).f1 x j) ((x.take j).map (sh shift)) (j : Int) = some true := by
  intro n
  induction n with
  | zero =>
    intro j k hj hk
    obtain ⟨k, rfl⟩ : ∃ m, k = m + 1 := ⟨k - 1, by omega⟩
    obtain rfl : j = x.length := by omega
    simp only [timesynclaw25_ClusterSpreads.l0]
    have h2 := hc k (by omega)
    rw [if_neg (by omega), if_neg (by omega), if_neg (by omega), List.take_length]
    by_cases hl : (x.length : Int) > 1
    · rw [if_pos hl, decide_eq_false (by have := hs2 hl; omega)]
      exact h2
    · rw [if_neg hl]
      exact h2
  | succ n ih =>
    intro j k hj hk
    obtain ⟨k, rfl⟩ : ∃ m, k = m + 1 := ⟨k - 1, by omega⟩
    simp only [timesynclaw25_ClusterSpreads.l0]
    have hw : wrap64 ((j : Int) + 1) = ((j + 1 : Nat) : Int) := by rw [Num.w64_in (by omega) (by omega)]; omega
    rw [if_pos (by omega), if_pos (by omega), if_pos h0, if_pos h1, if_pos (by rw [List.length_map, List.length_take]; omega), hw]
    have h2 := ih (j + 1) k (by omega) (by omega)
    have e : (x.take (j + 1)).map (sh shift) = (x.take j).map (sh shift) ++ [sh shift (rd_T34 x (j : Int))] := by
      have hg := rd_get x (j : Int) (by omega) (by omega)
      rw [show ((j : Int)).toNat = j by omega] at hg
      rw [List.take_add_one, hg]
      simp
    rw [e] at h2
    exact h2

theorem Spreads_true (l : List S34) (i shift : Int) (h30 : l.length ≤ 30) : timesynclaw25_ClusterSpreads.f 1200 l i shift = some true := by
  unfold timesynclaw25_ClusterSpreads.f
  rw [few_ok h30, Option.bind_some, if_pos rfl]
  have hstop : timesynclaw25_ClusterSpreads.j0 1200 l i shift true = some true := by
    simp only [timesynclaw25_ClusterSpreads.j0]
    rw [if_pos trivial, awake_ok _ (by omega)]
    rfl
  by_cases hv : valid l
  case neg =>
    obtain ⟨e, h1, h2⟩ := Check_no hv 1200 (by omega)
    rw [h1, Option.bind_some, if_neg h2]
    exact hstop
  rw [Check_ok hv _ (by omega), Option.bind_some, if_pos rfl]
  by_cases a1 : i < 0
  · rw [if_pos a1]; exact hstop
  rw [if_neg a1]
  by_cases a2 : i ≥ (l.length : Int)
  · rw [if_pos a2]; exact hstop
  rw [if_neg a2]
  by_cases a3 : shift < -1000000
  · rw [if_pos a3]; exact hstop
  rw [if_neg a3]
  by_cases a4 : shift > 1000000
  · rw [decide_eq_true a4]; exact hstop
  rw [decide_eq_false a4]
  simp only [timesynclaw25_ClusterSpreads.j0]
  have h12 := hv.1
  have hin : ∀ j : Nat, j < l.length → inO (rd_T34 l (j : Int)).f1 := fun j hj => (hv.2.1 _ (rd_mem (by omega) (by omega))).2.1
  have hio : inO (rd_T34 l i).f1 := (hv.2.1 _ (rd_mem (by omega) (by omega))).2.1
  have hg := gr_in hio hin l.length (Nat.le_refl _)
  rw [if_neg (by decide), Spread_ok hv i _ (by omega), Option.bind_some]
  generalize hse : (if 2 ≤ l.length ∧ 0 ≤ i ∧ i < (l.length : Int) then sp l i else 0) = s
  have hf : 2 ≤ l.length → fine l := valid_fine hv
  have hs0 : 0 ≤ s ∧ s ≤ 1073741824 ∧ ((l.length : Int) > 1 → s ≤ gr (rd_T34 l i).f1 l l.length) := by
    by_cases h2 : 2 ≤ l.length
    · rw [if_pos ⟨h2, by omega, by omega⟩] at hse
      subst hse
      refine ⟨sp_pos (hf h2) i (by omega) (by omega), sp_top (hf h2) i (by omega) (by omega), fun _ => sp_le (hf h2) i (by omega) (by omega) _ hg.1 fun j hj => ?_⟩
      have := hg.2 j hj
      rw [dist_ab]
      split <;> omega
    · rw [if_neg (by omega)] at hse
      subst hse
      exact ⟨by omega, by omega, fun _ => by omega⟩
  refine spr_l0 l i shift s h12 (by omega) (by omega) 900 hs0.1 hs0.2.1 hs0.2.2 ?_ l.length 0 _ (by omega) (by omega)
  intro k hk
  obtain ⟨k, rfl⟩ : ∃ m, k = m + 2 := ⟨k - 2, by omega⟩
  have hlast : timesynclaw25_ClusterSpreads.j3 (k + 1) i s (l.map (sh shift)) false = some true := by
    simp only [timesynclaw25_ClusterSpreads.j3]
    rw [if_neg (by decide)]
    by_cases hu : valid (l.map (sh shift))
    · rw [Check_ok hu _ (by omega), Option.bind_some, if_pos rfl, Spread_ok hu i _ (by omega), Option.bind_some, List.length_map]
      have he : (if 2 ≤ l.length ∧ 0 ≤ i ∧ i < (l.length : Int) then sp (l.map (sh shift)) i else 0) = s := by
        rw [← hse]
        by_cases h2 : 2 ≤ l.length
        · rw [if_pos ⟨h2, by omega, by omega⟩, if_pos ⟨h2, by omega, by omega⟩]
          refine (sp_same (hf h2) (valid_fine hu (by rw [List.length_map]; exact h2)) (by rw [List.length_map]) i (by omega) (by omega) fun j hj => ?_).symm
          rw [rd_map l shift j (by omega) (by omega), rd_map l shift i (by omega) (by omega)]
          have q1 := hin j hj
          unfold inO at q1 hio
          show dist _ _ = dist (wrap64 ((rd_T34 l (j : Int)).f1 + shift)) (wrap64 ((rd_T34 l i).f1 + shift))
          rw [Num.w64_in (by omega) (by omega), Num.w64_in (by omega) (by omega)]
          have e : ∀ a b c : Int, (if a < b then b - a else a - b) = (if a + c < b + c then b + c - (a + c) else a + c - (b + c)) := by
            intro a b c
            by_cases h : a < b
            · rw [if_pos h, if_pos (by omega)]
              omega
            · rw [if_neg h, if_neg (by omega)]
              omega
          unfold dist
          rw [← e]
        · rw [if_neg (by omega), if_neg (by omega)]
      rw [if_pos he, awake_ok _ (by omega)]
      rfl
    · obtain ⟨e, h1, h2⟩ := Check_no hu k (by omega)
      rw [h1, Option.bind_some, if_neg h2, awake_ok _ (by omega)]
      rfl
  simp only [timesynclaw25_ClusterSpreads.j2]
  rw [if_neg (by decide)]
  by_cases h2 : (l.length : Int) = 2
  · have h2' : l.length = 2 := by omega
    have hfl := hf (by omega)
    have e1 : s = dist (rd_T34 l (1 - i)).f1 (rd_T34 l i).f1 := by
      rw [← hse, if_pos ⟨by omega, by omega, by omega⟩]
      exact sp_two hfl h2' i (by omega) (by omega)
    have e2 : sp l (1 - i) = s := by
      rw [sp_two hfl h2' (1 - i) (by omega) (by omega), show 1 - (1 - i) = i by omega, e1, dist_comm]
    have hb := hg.2 (1 - i).toNat (by omega)
    rw [show (((1 - i).toNat : Nat) : Int) = 1 - i by omega] at hb
    have hle : gr (rd_T34 l i).f1 l l.length ≤ ab (rd_T34 l (1 - i)).f1 (rd_T34 l i).f1 := by
      refine gr_le _ (by unfold ab; split <;> omega) hio hin l.length (Nat.le_refl _) fun j hj => ?_
      by_cases hji : (j : Int) = i
      · rw [hji]
        unfold ab
        split <;> split <;> omega
      · rw [show (j : Int) = 1 - i by omega]
        exact Int.le_refl _
    have e3 : s = mn (gr (rd_T34 l i).f1 l l.length) 1073741824 := by
      rw [e1, dist_ab]
      unfold mn
      split <;> split <;> omega
    rw [if_pos h2, if_pos e3, Num.w64_in (by omega) (by omega), Spread_ok hv (1 - i) _ (by omega), Option.bind_some, if_pos ⟨by omega, by omega, by omega⟩, e2]
    simp only [bne_self_eq_false]
    exact hlast
  · rw [if_neg h2]
    exact hlast

theorem ClusterSpreads_walk (A : Option Addr) (len cap : Nat) (l : List (Int × Int × Int × Int × Int)) (i shift : Int) (w : World) (hl : Rk.Row w A len cap l) (w1 : (Lit.int .i64 i).wf = true) (w2 : (Lit.int .i64 shift).wf = true) :
    Calls Try.prog 7 #[.slice A len cap, .int .i64 i, .int .i64 shift] w fun e w' => e = .returned (.bool true) ∧ Below w.heap.size w w' := by
  by_cases h : 30 < len
  · go_enter Try.func7, Try.ntmps7
    go_wp2_with (first
      | (go_at_call 8
         with_reducible refine Calls.mono (few_big _ _ _ _ h) ?_
         rintro e w1 ⟨rfl, rfl⟩)
      | (go_at_call 9
         with_reducible refine Calls.mono (awake_any _) ?_
         rintro e w5 ⟨rfl, b5⟩))
    all_goals (go_ret; exact ⟨rfl, b5⟩)
  · have hr := row_reads hl (by omega)
    have e : (conv l).length = len := by rw [conv_length, hl.cnt]
    have hc := timesynclaw25_ClusterSpreads.calls 1200 A cap (conv l) i shift true w hr (by rw [e]; exact hl.le) (Spreads_true (conv l) i shift (by omega))
    rwa [e] at hc
end Go.Proofs.Ytbcmfmlbagjdoaa.Cq
