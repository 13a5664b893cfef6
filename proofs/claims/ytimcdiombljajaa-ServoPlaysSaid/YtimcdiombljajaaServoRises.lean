/- ServoRises: walked. -/
import Derived.Test.YtimcdiombljajaaSl
namespace Go.Proofs.Ytimcdiombljajaa.Sv
open Go Go.RowKit Go.Proofs.YtimcdiombljajaaW.PrintWords Go.Proofs.YtimcdiombljajaaW.PrintLast Go.Proofs.YtimcdiombljajaaW.PrintMore Go.Proofs.Ytimcdiombljajaa.PAll Go.Proofs.Ytimcdiombljajaa.PureDiv
attribute [local go_sem] max2_int min2_int max_two min_two max_three min_three max_four min_four
set_option linter.unusedVariables false
set_option linter.unusedSimpArgs false

theorem mn_mono {a b : Int} (h : a ≤ b) (c : Int) : mn a c ≤ mn b c := by unfold mn; split <;> split <;> omega
theorem mx_mono {a b : Int} (h : a ≤ b) (c : Int) : mx a c ≤ mx b c := by unfold mx; split <;> split <;> omega
theorem mn_mx (x y : Int) : mn x y ≤ mx x y := by unfold mn mx; split <;> split <;> omega
theorem clampS_bd (x l : Int) (h : 0 ≤ l) : -l ≤ mn (mx x (-l)) l ∧ mn (mx x (-l)) l ≤ l := by unfold mn mx; split <;> split <;> omega
theorem w64_id {x : Int} (h0 : -9223372036854775808 ≤ x) (h1 : x < 9223372036854775808) : wrap64 x = x := by unfold wrap64; omega
/-- the offset of a second's time is rounded down and clamped -/
theorem ratio_eq (off span : Int) (h : 1 ≤ span) : ratioS off span = mn (mx (off * 1000000000 / span) (-1000000000)) 1000000000 := by
  unfold ratioS md
  split
  · rfl
  · rename_i hq
    have hd : (off * 1000000000 / span) * span ≤ off * 1000000000 := Int.ediv_mul_le _ (by omega)
    have hu := Int.lt_ediv_add_one_mul_self (off * 1000000000) (show (0 : Int) < span by omega)
    have hz : ¬ (false = true) := by decide
    simp only [if_neg hz]
    by_cases hp : 0 < off
    · rw [if_pos hp]
      have h0 : 0 ≤ off * 1000000000 / span := Int.ediv_nonneg (by omega) (by omega)
      unfold mn mx
      split <;> split <;> (try split) <;> (try split) <;> omega
    · rw [if_neg hp]
      have h0 : off * 1000000000 / span ≤ 0 := by
        have := Int.ediv_le_ediv (c := span) (by omega) (show off * 1000000000 ≤ 0 by omega)
        simpa using this
      unfold mn mx
      split <;> split <;> (try split) <;> (try split) <;> omega
theorem ratio_bd (off span : Int) : -1000000000 ≤ ratioS off span ∧ ratioS off span ≤ 1000000000 := clampS_bd _ 1000000000 (by decide)
theorem ratio_mono {x y : Int} (h : x ≤ y) (span : Int) (hs : 1 ≤ span) : ratioS x span ≤ ratioS y span := by
  rw [ratio_eq x span hs, ratio_eq y span hs]
  exact mn_mono (mx_mono (Int.ediv_le_ediv (by omega) (by omega)) _) _
section
variable {g li I e e' : Int}
theorem prod_bd (hg0 : 0 ≤ g) (hg1 : g ≤ 1048576) (h0 : -1000000000 ≤ e) (h1 : e ≤ 1000000000) : -1048576000000000 ≤ g * e ∧ g * e ≤ 1048576000000000 := by
  have a := Int.mul_le_mul_of_nonneg_left h1 hg0
  have b := Int.mul_le_mul_of_nonneg_left h0 hg0
  omega
theorem intS_eq (hg0 : 0 ≤ g) (hg1 : g ≤ 1048576) (hl0 : 1 ≤ li) (hl1 : li ≤ 500000) (hI : -li ≤ I ∧ I ≤ li) (he : -1000000000 ≤ e ∧ e ≤ 1000000000) : intS g li I e = mn (mx (I + g * e / 65536) (-li)) li := by
  have hp := prod_bd hg0 hg1 he.1 he.2
  unfold intS
  rw [w64_id (x := g * e) (by omega) (by omega), w64_id (x := I + g * e / 65536) (by omega) (by omega), w64_id (x := -li) (by omega) (by omega)]
theorem intS_bd (hl0 : 1 ≤ li) (hl1 : li ≤ 500000) (g I e : Int) : -li ≤ intS g li I e ∧ intS g li I e ≤ li := by
  unfold intS
  rw [w64_id (x := -li) (by omega) (by omega)]
  exact clampS_bd _ li (by omega)
theorem freqS_eq (hg0 : 0 ≤ g) (hg1 : g ≤ 1048576) (hl0 : 1 ≤ li) (hl1 : li ≤ 500000) (hI : -li ≤ I ∧ I ≤ li) (he : -1000000000 ≤ e ∧ e ≤ 1000000000) : freqS g li e I = mn (mx (g * e / 65536 + I) (-li)) li := by
  have hp := prod_bd hg0 hg1 he.1 he.2
  unfold freqS
  rw [w64_id (x := g * e) (by omega) (by omega), w64_id (x := g * e / 65536 + I) (by omega) (by omega), w64_id (x := -li) (by omega) (by omega)]
theorem freqS_bd (hl0 : 1 ≤ li) (hl1 : li ≤ 500000) (g e I : Int) : -li ≤ freqS g li e I ∧ freqS g li e I ≤ li := by
  unfold freqS
  rw [w64_id (x := -li) (by omega) (by omega)]
  exact clampS_bd _ li (by omega)
end
theorem act_freq {c : Conf} {s : St} {off span v : Int} (h : act c s off span = (1, v, 0)) : inS off span ∧ v = freqS c.kp c.li (ratioS off span) (intS c.ki c.li s.I (ratioS off span)) := by
  unfold act at h
  split at h
  · rename_i hin
    split at h
    · cases h
    · injection h with _ h
      injection h with h _
      exact ⟨hin, h.symm⟩
  · cases h
def okI (c : Conf) (s : St) : Prop := -c.li ≤ s.I ∧ s.I ≤ c.li
theorem rises {c : Conf} {s : St} {x y span v u : Int} (hc : okC c.kp c.ki c.li c.sf c.sl) (hI : okI c s) (hxy : x ≤ y) (h1 : act c s x span = (1, v, 0)) (h2 : act c s y span = (1, u, 0)) : v ≤ u := by
  obtain ⟨hin, rfl⟩ := act_freq h1
  obtain ⟨_, rfl⟩ := act_freq h2
  unfold okC at hc
  obtain ⟨⟨p0, p1⟩, ⟨i0, i1⟩, ⟨l0, l1⟩, _⟩ := hc
  have b1 := ratio_bd x span
  have b2 := ratio_bd y span
  have hm := ratio_mono hxy span hin.2.1
  generalize ratioS x span = e at *
  generalize ratioS y span = e' at *
  have hi : intS c.ki c.li s.I e ≤ intS c.ki c.li s.I e' := by
    rw [intS_eq i0 i1 l0 l1 hI b1, intS_eq i0 i1 l0 l1 hI b2]
    have := Int.ediv_le_ediv (c := 65536) (by decide) (Int.mul_le_mul_of_nonneg_left hm i0)
    exact mn_mono (mx_mono (by omega) _) _
  rw [freqS_eq p0 p1 l0 l1 (intS_bd l0 l1 _ _ _) b1, freqS_eq p0 p1 l0 l1 (intS_bd l0 l1 _ _ _) b2]
  have := Int.ediv_le_ediv (c := 65536) (by decide) (Int.mul_le_mul_of_nonneg_left hm p0)
  exact mn_mono (mx_mono (by omega) _) _
theorem okI_nxt {c : Conf} {s : St} (hc : okC c.kp c.ki c.li c.sf c.sl) (hI : okI c s) (off span : Int) : okI c (nxt c s off span) := by
  unfold okC at hc
  unfold nxt
  split
  · split
    · exact hI
    · exact intS_bd hc.2.2.1.1 hc.2.2.1.2 _ _ _
  · exact hI
theorem okI_zero {c : Conf} (hc : okC c.kp c.ki c.li c.sf c.sl) (n last : Int) : okI c ⟨0, n, last⟩ := by
  unfold okC at hc
  unfold okI
  show -c.li ≤ (0 : Int) ∧ (0 : Int) ≤ c.li
  omega
theorem okI_deed {c : Conf} {s : St} (hc : okC c.kp c.ki c.li c.sf c.sl) (hI : okI c s) (k off span : Int) : okI c (deed c s k off span) := by
  unfold deed
  split
  · exact okI_nxt hc hI off span
  · split
    · exact okI_zero hc _ _
    · exact hI

theorem of_ne {k n : Int} (h : (k != n) = false) : k = n := by simpa using h

def confObj (c : Conf) : Obj := .cells #[.int .i64 c.kp, .int .i64 c.ki, .int .i64 c.li, .int .i64 c.sf, .int .i64 c.sl] 23

set_option maxHeartbeats 4000000 in
theorem ServoRises_valid (c : Conf) (A : Option Addr) (len cap : Nat) (l : List (Int × Int × Int)) (x y span : Int) (w : World) (hl : Deeds w A len cap l) (h : okC c.kp c.ki c.li c.sf c.sl) :
    Calls Try.prog 5 #[.agg #[.int .i64 c.kp, .int .i64 c.ki, .int .i64 c.li, .int .i64 c.sf, .int .i64 c.sl], .slice A len cap, .int .i64 x, .int .i64 y, .int .i64 span] w fun e w' => e = .returned (.bool true) ∧ Below w.heap.size w w' := by
  have R0 : (w.alloc (confObj c)).heap[w.heap.size]? = some (.cells #[.int .i64 c.kp, .int .i64 c.ki, .int .i64 c.li, .int .i64 c.sf, .int .i64 c.sl] 23 (0, 0)) := blk_new w _
  have L0 : Below w.heap.size w (w.alloc (confObj c)) := (Below.refl _ _).alloc (Nat.le_refl _) _
  unfold confObj at R0 L0
  obtain ⟨c0, c1, c2, c3, c4⟩ := cs5 R0
  have hN := fun W => new_ok c.kp c.ki c.li c.sf c.sl W h
  replace hN := Aside0.mk hN
  replace hl := Aside0.mk hl
  replace h := Aside0.mk h
  go_enter Try.func5, Try.ntmps5
  go_wp2
  go_region_held3 (fun w' => w'.cell? ⟨w.heap.size, 0, none⟩ = some (.int .i64 c.kp) ∧ w'.cell? ⟨w.heap.size, 1, none⟩ = some (.int .i64 c.ki) ∧ w'.cell? ⟨w.heap.size, 2, none⟩ = some (.int .i64 c.li) ∧ w'.cell? ⟨w.heap.size, 3, none⟩ = some (.int .i64 c.sf) ∧ w'.cell? ⟨w.heap.size, 4, none⟩ = some (.int .i64 c.sl))
    (first | go_keep | (exact cs5 (by assumption)))
    (first
    | (go_at_call 13
       refine Calls.mono (hN.out _) ?_
       rintro e w1 ⟨g1, hg1, rfl, B1, L1⟩
       have R1 : w1.heap[w.heap.size]? = some (.cells #[.int .i64 c.kp, .int .i64 c.ki, .int .i64 c.li, .int .i64 c.sf, .int .i64 c.sl] 23) := blk_below (by exact R0) L1
       replace L1 := below_on L0 L1 rfl rfl rfl rfl
       clear R0 L0)
    | (go_at_call 13
       refine Calls.mono (hN.out _) ?_
       rintro e w2 ⟨g2, hg2, rfl, B2, L2⟩
       have R2 : w2.heap[w.heap.size]? = some (.cells #[.int .i64 c.kp, .int .i64 c.ki, .int .i64 c.li, .int .i64 c.sf, .int .i64 c.sl] 23) := blk_below (by exact R1) L2
       have B3 : w2.heap[g1]? = some (svo c ⟨0, 0, 0⟩) := blk_below (by exact B1) L2
       replace L2 := below_on L1 L2 rfl rfl rfl rfl))
  have hs1 := L1.size
  have hs2 := L2.size
  have k1 : w.heap.size ≤ g1 := by simp at hg1; omega
  have k2 : w.heap.size ≤ g2 := by omega
  have hlt1 := blk_lt B1
  have hne : g1 ≠ g2 := by omega
  clear c0 c1 c2 c3 c4 R1 R2 B1 L1 hg1 hg2 hN hs1 hs2 hlt1
  go_wp2_with (first
    | (go_at_call 16
       refine Calls.mono (first_any hl.out _) ?_
       rintro e w3 ⟨rfl, rfl⟩))
  go_loopw [38] (fun i wr => ∃ (k : Nat) (s : St), k ≤ min len 200 ∧ i = .int .i64 k ∧ wr.heap[g1]? = some (svo c s) ∧ wr.heap[g2]? = some (svo c s) ∧ okI c s ∧ Below w.heap.size w wr) (fun i _ => min len 200 - (intOf i).toNat)
  · exact ⟨0, ⟨0, 0, 0⟩, by omega, rfl, B3, B2, okI_zero h.out 0 0, L2⟩
  · obtain ⟨k, s, hk, rfl, hB1, hB2, hI, hL⟩ := hrel
    have HI := Aside0.mk hI
    clear hI
    by_cases hlt : k < min len 200
    · have hd := (hl.out.below hL).first
      cases A with
      | none => have := hl.out.nil rfl; omega
      | some a =>
        have hkl : k < (l.take 200).length := by rw [hd.cnt]; exact hlt
        obtain ⟨d0, d1, d2⟩ := hd.cell a rfl k _ (List.getElem?_eq_getElem hkl)
        generalize (l.take 200)[k] = p at *
        have hkk : (k : Int) < ((min len 200 : Nat) : Int) := by omega
        clear hd
        have hlt2 := blk_lt hB2
        have hlt1 := blk_lt hB1
        have A0 : (wr.alloc (.cells #[.int .i64 p.1, .int .i64 p.2.1, .int .i64 p.2.2] 38)).heap[wr.heap.size]? = some (.cells #[.int .i64 p.1, .int .i64 p.2.1, .int .i64 p.2.2] 38 (0, 0)) := blk_new wr _
        have hB1 := blk_alloc hB1 (.cells #[.int .i64 p.1, .int .i64 p.2.1, .int .i64 p.2.2] 38)
        have hB2 := blk_alloc hB2 (.cells #[.int .i64 p.1, .int .i64 p.2.1, .int .i64 p.2.2] 38)
        have hL := hL.alloc hL.size (.cells #[.int .i64 p.1, .int .i64 p.2.1, .int .i64 p.2.2] 38)
        obtain ⟨q0, q1, q2⟩ := cs3 A0
        go_wp2_with (first
          | (go_at_call 17
             with_reducible refine Calls.mono (does_any g1 c s p.1 p.2.1 p.2.2 _ hB1) ?_
             rintro e w4 ⟨rfl, hC1, U1⟩
             have hC2 := U1.blk hB2 (Ne.symm hne)
             have A1 := U1.blk A0 (by omega)
             have hL1 := Upd.below (B := w.heap.size) (w0 := w) hL U1 k1 hL.size
             obtain ⟨r0, r1, r2⟩ := cs3 A1)
          | (go_at_call 17
             with_reducible refine Calls.mono (does_any g2 c s p.1 p.2.1 p.2.2 _ hC2) ?_
             rintro e w5 ⟨rfl, hD2, U2⟩
             have hD1 := U2.blk hC1 hne
             have hL2 := Upd.below (B := w.heap.size) (w0 := w) hL1 U2 k2 hL1.size))
        all_goals
          go_roundw
          case rel => exact ⟨k + 1, deed c s p.1 p.2.1 p.2.2, by omega, by go_num, hD1, hD2, okI_deed h.out HI.out _ _ _, hL2⟩
          case measure => simp [intOf]; omega
    · have hkk : ¬ ((k : Int) < ((min len 200 : Nat) : Int)) := by omega
      have hlt2 := blk_lt hB2
      have hlt1 := blk_lt hB1
      rcases Int.lt_trichotomy y x with hyx | hyx | hyx
      · have hyx' : ¬ (x < y) := by omega
        rcases hx : act c s y span with ⟨ka, va, ea⟩
        rcases hy : act c s x span with ⟨kb, vb, eb⟩
        have HM := Aside0.mk (fun (h1 : ea = 0) (h2 : eb = 0) (h3 : ka = 1) (h4 : kb = 1) => show va ≤ vb by
          subst h1; subst h2; subst h3; subst h4
          exact rises h.out HI.out (by omega) hx hy)
        have hS1 := Aside0.mk (fun W hb => sample_to g1 c s _ _ _ _ _ _ W hb hx rfl)
        have hS2 := Aside0.mk (fun W hb => sample_to g2 c s _ _ _ _ _ _ W hb hy rfl)
        clear hx hy
        go_wp2_with (first
          | (go_at_call 15
             with_reducible refine Calls.mono (hS1.out _ hB1) ?_
             rintro e w4 ⟨rfl, hC1, U1⟩
             have hC2 := blk_alloc (U1.blk hB2 (Ne.symm hne)) (.cells #[.int .i64 ka, .int .i64 va] 31)
             have hL1 := Upd.below (B := w.heap.size) (w0 := w) hL U1 k1 hL.size
             have A1 := blk_new w4 (.cells #[.int .i64 ka, .int .i64 va] 31)
             replace hL1 := hL1.alloc hL1.size (.cells #[.int .i64 ka, .int .i64 va] 31)
             have hz := U1.size
             obtain ⟨q0, q1⟩ := cs2 A1)
          | (go_at_call 15
             with_reducible refine Calls.mono (hS2.out _ hC2) ?_
             rintro e w5 ⟨rfl, hD2, U2⟩
             have A2 := blk_alloc (U2.blk A1 (by omega)) (.cells #[.int .i64 kb, .int .i64 vb] 31)
             have hL2 := Upd.below (B := w.heap.size) (w0 := w) hL1 U2 k2 hL1.size
             have A3 := blk_new w5 (.cells #[.int .i64 kb, .int .i64 vb] 31)
             replace hL2 := hL2.alloc hL2.size (.cells #[.int .i64 kb, .int .i64 vb] 31)
             obtain ⟨r0, r1⟩ := cs2 A2
             obtain ⟨t0, t1⟩ := cs2 A3)
          | (go_at_call 14
             with_reducible refine Calls.mono (awake_any _) ?_
             rintro e w6 ⟨rfl, L6⟩
             replace L6 := hL2.trans (L6.mono hL2.size)))
        all_goals first
          | (go_ret; exact ⟨rfl, L6⟩)
          | (exfalso; have hm := HM.out (by assumption) (by assumption) (by assumption) (of_ne (by assumption)); omega)
      · subst hyx
        have hyx' : ¬ (y < y) := by omega
        rcases hx : act c s y span with ⟨ka, va, ea⟩
        rcases hy : act c s y span with ⟨kb, vb, eb⟩
        have HM := Aside0.mk (fun (h1 : ea = 0) (h2 : eb = 0) (h3 : ka = 1) (h4 : kb = 1) => show va ≤ vb by
          subst h1; subst h2; subst h3; subst h4
          exact rises h.out HI.out (by omega) hx hy)
        have hS1 := Aside0.mk (fun W hb => sample_to g1 c s _ _ _ _ _ _ W hb hx rfl)
        have hS2 := Aside0.mk (fun W hb => sample_to g2 c s _ _ _ _ _ _ W hb hy rfl)
        clear hx hy
        go_wp2_with (first
          | (go_at_call 15
             with_reducible refine Calls.mono (hS1.out _ hB1) ?_
             rintro e w4 ⟨rfl, hC1, U1⟩
             have hC2 := blk_alloc (U1.blk hB2 (Ne.symm hne)) (.cells #[.int .i64 ka, .int .i64 va] 31)
             have hL1 := Upd.below (B := w.heap.size) (w0 := w) hL U1 k1 hL.size
             have A1 := blk_new w4 (.cells #[.int .i64 ka, .int .i64 va] 31)
             replace hL1 := hL1.alloc hL1.size (.cells #[.int .i64 ka, .int .i64 va] 31)
             have hz := U1.size
             obtain ⟨q0, q1⟩ := cs2 A1)
          | (go_at_call 15
             with_reducible refine Calls.mono (hS2.out _ hC2) ?_
             rintro e w5 ⟨rfl, hD2, U2⟩
             have A2 := blk_alloc (U2.blk A1 (by omega)) (.cells #[.int .i64 kb, .int .i64 vb] 31)
             have hL2 := Upd.below (B := w.heap.size) (w0 := w) hL1 U2 k2 hL1.size
             have A3 := blk_new w5 (.cells #[.int .i64 kb, .int .i64 vb] 31)
             replace hL2 := hL2.alloc hL2.size (.cells #[.int .i64 kb, .int .i64 vb] 31)
             obtain ⟨r0, r1⟩ := cs2 A2
             obtain ⟨t0, t1⟩ := cs2 A3)
          | (go_at_call 14
             with_reducible refine Calls.mono (awake_any _) ?_
             rintro e w6 ⟨rfl, L6⟩
             replace L6 := hL2.trans (L6.mono hL2.size)))
        all_goals first
          | (go_ret; exact ⟨rfl, L6⟩)
          | (exfalso; have hm := HM.out (by assumption) (by assumption) (by assumption) (of_ne (by assumption)); omega)
      · have hyx' : ¬ (y < x) := by omega
        rcases hx : act c s x span with ⟨ka, va, ea⟩
        rcases hy : act c s y span with ⟨kb, vb, eb⟩
        have HM := Aside0.mk (fun (h1 : ea = 0) (h2 : eb = 0) (h3 : ka = 1) (h4 : kb = 1) => show va ≤ vb by
          subst h1; subst h2; subst h3; subst h4
          exact rises h.out HI.out (by omega) hx hy)
        have hS1 := Aside0.mk (fun W hb => sample_to g1 c s _ _ _ _ _ _ W hb hx rfl)
        have hS2 := Aside0.mk (fun W hb => sample_to g2 c s _ _ _ _ _ _ W hb hy rfl)
        clear hx hy
        go_wp2_with (first
          | (go_at_call 15
             with_reducible refine Calls.mono (hS1.out _ hB1) ?_
             rintro e w4 ⟨rfl, hC1, U1⟩
             have hC2 := blk_alloc (U1.blk hB2 (Ne.symm hne)) (.cells #[.int .i64 ka, .int .i64 va] 31)
             have hL1 := Upd.below (B := w.heap.size) (w0 := w) hL U1 k1 hL.size
             have A1 := blk_new w4 (.cells #[.int .i64 ka, .int .i64 va] 31)
             replace hL1 := hL1.alloc hL1.size (.cells #[.int .i64 ka, .int .i64 va] 31)
             have hz := U1.size
             obtain ⟨q0, q1⟩ := cs2 A1)
          | (go_at_call 15
             with_reducible refine Calls.mono (hS2.out _ hC2) ?_
             rintro e w5 ⟨rfl, hD2, U2⟩
             have A2 := blk_alloc (U2.blk A1 (by omega)) (.cells #[.int .i64 kb, .int .i64 vb] 31)
             have hL2 := Upd.below (B := w.heap.size) (w0 := w) hL1 U2 k2 hL1.size
             have A3 := blk_new w5 (.cells #[.int .i64 kb, .int .i64 vb] 31)
             replace hL2 := hL2.alloc hL2.size (.cells #[.int .i64 kb, .int .i64 vb] 31)
             obtain ⟨r0, r1⟩ := cs2 A2
             obtain ⟨t0, t1⟩ := cs2 A3)
          | (go_at_call 14
             with_reducible refine Calls.mono (awake_any _) ?_
             rintro e w6 ⟨rfl, L6⟩
             replace L6 := hL2.trans (L6.mono hL2.size)))
        all_goals first
          | (go_ret; exact ⟨rfl, L6⟩)
          | (exfalso; have hm := HM.out (by assumption) (by assumption) (by assumption) (of_ne (by assumption)); omega)

set_option maxHeartbeats 4000000 in
theorem ServoRises_invalid (c : Conf) (A : Option Addr) (len cap : Nat) (x y span : Value) (w : World) (h : ¬ okC c.kp c.ki c.li c.sf c.sl) :
    Calls Try.prog 5 #[.agg #[.int .i64 c.kp, .int .i64 c.ki, .int .i64 c.li, .int .i64 c.sf, .int .i64 c.sl], .slice A len cap, x, y, span] w fun e w' => e = .returned (.bool true) ∧ Below w.heap.size w w' := by
  have R0 : (w.alloc (confObj c)).heap[w.heap.size]? = some (.cells #[.int .i64 c.kp, .int .i64 c.ki, .int .i64 c.li, .int .i64 c.sf, .int .i64 c.sl] 23 (0, 0)) := blk_new w _
  have L0 : Below w.heap.size w (w.alloc (confObj c)) := (Below.refl _ _).alloc (Nat.le_refl _) _
  unfold confObj at R0 L0
  obtain ⟨c0, c1, c2, c3, c4⟩ := cs5 R0
  have hC := check_any c.kp c.ki c.li c.sf c.sl
  simp only [if_neg h] at hC
  replace hC := Aside0.mk hC
  have hN := fun W => new_no c.kp c.ki c.li c.sf c.sl W h
  replace hN := Aside0.mk hN
  clear h
  go_enter Try.func5, Try.ntmps5
  go_wp2
  go_region_held3 (fun w' => w'.cell? ⟨w.heap.size, 0, none⟩ = some (.int .i64 c.kp) ∧ w'.cell? ⟨w.heap.size, 1, none⟩ = some (.int .i64 c.ki) ∧ w'.cell? ⟨w.heap.size, 2, none⟩ = some (.int .i64 c.li) ∧ w'.cell? ⟨w.heap.size, 3, none⟩ = some (.int .i64 c.sf) ∧ w'.cell? ⟨w.heap.size, 4, none⟩ = some (.int .i64 c.sl))
    (first | go_keep | (exact cs5 (by assumption)))
    (first
    | (go_at_call 13
       refine Calls.mono (hN.out _) ?_
       rintro e w1 ⟨rfl, L1⟩
       have R1 : w1.heap[w.heap.size]? = some (.cells #[.int .i64 c.kp, .int .i64 c.ki, .int .i64 c.li, .int .i64 c.sf, .int .i64 c.sl] 23) := blk_below (by exact R0) L1
       replace L1 := below_on L0 L1 rfl rfl rfl rfl
       clear R0 L0)
    | (go_at_call 13
       refine Calls.mono (hN.out _) ?_
       rintro e w2 ⟨rfl, L2⟩
       have R2 : w2.heap[w.heap.size]? = some (.cells #[.int .i64 c.kp, .int .i64 c.ki, .int .i64 c.li, .int .i64 c.sf, .int .i64 c.sl] 23) := blk_below (by exact R1) L2
       replace L2 := below_on L1 L2 rfl rfl rfl rfl))
  all_goals
    clear c0 c1 c2 c3 c4
    obtain ⟨c0, c1, c2, c3, c4⟩ := cs5 R2
    go_wp2_with (first
      | (go_at_call 11
         with_reducible refine Calls.mono (hC.out _) ?_
         rintro e w3 ⟨rfl, L3⟩
         replace L3 := L2.trans (L3.mono L2.size))
      | (go_at_call 14
         with_reducible refine Calls.mono (awake_any _) ?_
         rintro e w4 ⟨rfl, L4⟩
         replace L4 := L3.trans (L4.mono L3.size)))
  all_goals (go_ret; exact ⟨rfl, L4⟩)
theorem ServoRises_walk (kp ki li sf sl : Int) (A : Option Addr) (len cap : Nat) (l : List (Int × Int × Int)) (x y span : Int) (w : World) (w0 : (Lit.int .i64 kp).wf = true) (w1 : (Lit.int .i64 ki).wf = true) (w2 : (Lit.int .i64 li).wf = true) (w3 : (Lit.int .i64 sf).wf = true) (w4 : (Lit.int .i64 sl).wf = true) (hl : Deeds w A len cap l) (_ : (Lit.int .i64 x).wf = true) (_ : (Lit.int .i64 y).wf = true) (_ : (Lit.int .i64 span).wf = true) :
    Calls Try.prog 5 #[.agg #[.int .i64 kp, .int .i64 ki, .int .i64 li, .int .i64 sf, .int .i64 sl], .slice A len cap, .int .i64 x, .int .i64 y, .int .i64 span] w fun e w' => e = .returned (.bool true) ∧ Below w.heap.size w w' := by
  by_cases h : okC kp ki li sf sl
  · exact ServoRises_valid ⟨kp, ki, li, sf, sl⟩ A len cap l x y span w hl h
  · exact ServoRises_invalid ⟨kp, ki, li, sf, sl⟩ A len cap _ _ _ w h
end Go.Proofs.Ytimcdiombljajaa.Sv
