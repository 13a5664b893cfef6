/- ServoRests: walked. -/
import Derived.Test.YtimcdiombljajaaServoRises
namespace Go.Proofs.Ytimcdiombljajaa.Sv
open Go Go.RowKit Go.Proofs.YtimcdiombljajaaW.PrintWords Go.Proofs.YtimcdiombljajaaW.PrintLast Go.Proofs.YtimcdiombljajaaW.PrintMore Go.Proofs.Ytimcdiombljajaa.PAll Go.Proofs.Ytimcdiombljajaa.PureDiv
attribute [local go_sem] max2_int min2_int max_two min_two max_three min_three max_four min_four
set_option linter.unusedVariables false
set_option linter.unusedSimpArgs false

theorem clampS_in (x l : Int) (h : -l ≤ x ∧ x ≤ l) : mn (mx x (-l)) l = x := by unfold mn mx; split <;> split <;> omega
theorem ratio_rest (span : Int) (h : 1 ≤ span) : ratioS 0 span = 0 := by
  rw [ratio_eq 0 span h, Int.zero_mul, Int.zero_ediv]
  decide
theorem rest_in {span : Int} (h0 : 1 ≤ span) (h1 : span ≤ 4294967296) : inS 0 span := by unfold inS; omega
theorem rest_no (sf sl n : Int) : ¬ stepsS sf sl n 0 := by
  unfold stepsS mx
  intro ⟨h0, h1⟩
  have e : (if (0 : Int) < -0 then -0 else 0) = 0 := by decide
  rw [e] at h1
  omega
theorem rest_act {c : Conf} {s : St} (hc : okC c.kp c.ki c.li c.sf c.sl) (hI : okI c s) {span : Int} (h0 : 1 ≤ span) (h1 : span ≤ 4294967296) :
    act c s 0 span = (1, s.I, 0) ∧ nxt c s 0 span = ⟨s.I, wrap64 (s.n + 1), s.I⟩ := by
  unfold okC at hc
  obtain ⟨⟨p0, p1⟩, ⟨i0, i1⟩, ⟨l0, l1⟩, _⟩ := hc
  have e0 := ratio_rest span h0
  have eI : intS c.ki c.li s.I 0 = s.I := by
    rw [intS_eq i0 i1 l0 l1 hI ⟨by decide, by decide⟩, Int.mul_zero, Int.zero_ediv, Int.add_zero]
    exact clampS_in _ _ hI
  have eF : freqS c.kp c.li 0 s.I = s.I := by
    rw [freqS_eq p0 p1 l0 l1 hI ⟨by decide, by decide⟩, Int.mul_zero, Int.zero_ediv, Int.zero_add]
    exact clampS_in _ _ hI
  unfold act nxt
  rw [if_pos (rest_in h0 h1), if_pos (rest_in h0 h1), if_neg (rest_no _ _ _), if_neg (rest_no _ _ _), e0, eI, eF]
  exact ⟨rfl, rfl⟩

set_option maxHeartbeats 4000000 in
theorem ServoRests_valid (c : Conf) (A : Option Addr) (len cap : Nat) (l : List (Int × Int × Int)) (x y : Int) (w : World) (hl : Deeds w A len cap l) (hx0 : 0 ≤ x) (hx1 : x ≤ 4294967295) (hy0 : 0 ≤ y) (hy1 : y ≤ 4294967295) (h : okC c.kp c.ki c.li c.sf c.sl) :
    Calls Try.prog 6 #[.agg #[.int .i64 c.kp, .int .i64 c.ki, .int .i64 c.li, .int .i64 c.sf, .int .i64 c.sl], .slice A len cap, .int .u32 x, .int .u32 y] w fun e w' => e = .returned (.bool true) ∧ Below w.heap.size w w' := by
  have R0 : (w.alloc (confObj c)).heap[w.heap.size]? = some (.cells #[.int .i64 c.kp, .int .i64 c.ki, .int .i64 c.li, .int .i64 c.sf, .int .i64 c.sl] 23 (0, 0)) := blk_new w _
  have L0 : Below w.heap.size w (w.alloc (confObj c)) := (Below.refl _ _).alloc (Nat.le_refl _) _
  unfold confObj at R0 L0
  obtain ⟨c0, c1, c2, c3, c4⟩ := cs5 R0
  have hN := fun W => new_ok c.kp c.ki c.li c.sf c.sl W h
  replace hN := Aside0.mk hN
  replace hl := Aside0.mk hl
  replace h := Aside0.mk h
  go_enter Try.func6, Try.ntmps6
  go_wp2
  go_region_held3 (fun w' => w'.cell? ⟨w.heap.size, 0, none⟩ = some (.int .i64 c.kp) ∧ w'.cell? ⟨w.heap.size, 1, none⟩ = some (.int .i64 c.ki) ∧ w'.cell? ⟨w.heap.size, 2, none⟩ = some (.int .i64 c.li) ∧ w'.cell? ⟨w.heap.size, 3, none⟩ = some (.int .i64 c.sf) ∧ w'.cell? ⟨w.heap.size, 4, none⟩ = some (.int .i64 c.sl))
    (first | go_keep | (exact cs5 (by assumption)))
    (first
    | (go_at_call 13
       refine Calls.mono (hN.out _) ?_
       rintro e w1 ⟨g1, hg1, rfl, B1, L1⟩
       have R1 : w1.heap[w.heap.size]? = some (.cells #[.int .i64 c.kp, .int .i64 c.ki, .int .i64 c.li, .int .i64 c.sf, .int .i64 c.sl] 23) := blk_below (by exact R0) L1
       replace L1 := below_on L0 L1 rfl rfl rfl rfl
       clear R0 L0)
    | (go_at_call 13
       refine Calls.mono (hN.out _) ?_
       rintro e w2 ⟨g2, hg2, rfl, B2, L2⟩
       have R2 : w2.heap[w.heap.size]? = some (.cells #[.int .i64 c.kp, .int .i64 c.ki, .int .i64 c.li, .int .i64 c.sf, .int .i64 c.sl] 23) := blk_below (by exact R1) L2
       have B3 : w2.heap[g1]? = some (svo c ⟨0, 0, 0⟩) := blk_below (by exact B1) L2
       replace L2 := below_on L1 L2 rfl rfl rfl rfl))
  have hs1 := L1.size
  have hs2 := L2.size
  have k1 : w.heap.size ≤ g1 := by simp at hg1; omega
  have k2 : w.heap.size ≤ g2 := by omega
  have hlt1 := blk_lt B1
  have hne : g1 ≠ g2 := by omega
  clear c0 c1 c2 c3 c4 R1 R2 B1 L1 hg1 hg2 hN hs1 hs2 hlt1
  have hx2 : wrap64 x = x := w64_id (by omega) (by omega)
  have hx3 : wrap64 (x + 1) = x + 1 := w64_id (by omega) (by omega)
  have hy2 : wrap64 y = y := w64_id (by omega) (by omega)
  have hy3 : wrap64 (y + 1) = y + 1 := w64_id (by omega) (by omega)
  have r0 := rest_act h.out (okI_zero h.out 0 0) (span := x + 1) (by omega) (by omega)
  have hS0 := Aside0.mk (fun W hb => sample_to g2 c _ _ _ _ _ _ _ W hb r0.1 r0.2)
  have hSx := Aside0.mk (fun (s : St) (hI : okI c s) W hb => sample_to g1 c s _ _ _ _ _ _ W hb (rest_act h.out hI (span := x + 1) (by omega) (by omega)).1 (rest_act h.out hI (span := x + 1) (by omega) (by omega)).2)
  have hSy := Aside0.mk (fun (s : St) (hI : okI c s) W hb => sample_to g1 c s _ _ _ _ _ _ W hb (rest_act h.out hI (span := y + 1) (by omega) (by omega)).1 (rest_act h.out hI (span := y + 1) (by omega) (by omega)).2)
  clear r0 hx0 hx1 hy0 hy1
  go_wp2_with (first
    | (go_at_call 15
       with_reducible refine Calls.mono (hS0.out _ B2) ?_
       rintro e w3 ⟨rfl, B4, U3⟩
       have B5 := U3.blk B3 hne
       have L3 := Upd.below (B := w.heap.size) (w0 := w) L2 U3 k2 L2.size
       have A3 := blk_new w3 (.cells #[.int .i64 1, .int .i64 0] 31)
       replace B5 := blk_alloc B5 (.cells #[.int .i64 1, .int .i64 0] 31)
       replace L3 := L3.alloc L3.size (.cells #[.int .i64 1, .int .i64 0] 31)
       obtain ⟨q0, q1⟩ := cs2 A3)
    | (go_at_call 16
       refine Calls.mono (first_any hl.out _) ?_
       rintro e w4 ⟨rfl, rfl⟩))
  have hlt4 := blk_lt B5
  clear B2 B3 L2 q0 q1 A3 U3 B4 hS0
  go_loopw [53] (fun i wr => ∃ (k : Nat) (s : St), k ≤ min len 200 ∧ i = .int .i64 k ∧ wr.heap[g1]? = some (svo c s) ∧ okI c s ∧ Below w.heap.size w wr) (fun i _ => min len 200 - (intOf i).toNat)
  · exact ⟨0, ⟨0, 0, 0⟩, by omega, rfl, B5, okI_zero h.out 0 0, L3⟩
  · obtain ⟨k, s, hk, rfl, hB1, hI, hL⟩ := hrel
    have HI := Aside0.mk hI
    clear hI B5 L3 hlt4
    by_cases hlt : k < min len 200
    · have hd := (hl.out.below hL).first
      cases A with
      | none => have := hl.out.nil rfl; omega
      | some a =>
        have hkl : k < (l.take 200).length := by rw [hd.cnt]; exact hlt
        obtain ⟨d0, d1, d2⟩ := hd.cell a rfl k _ (List.getElem?_eq_getElem hkl)
        generalize (l.take 200)[k] = p at *
        have hkk : (k : Int) < ((min len 200 : Nat) : Int) := by omega
        clear hd
        have A0 : (wr.alloc (.cells #[.int .i64 p.1, .int .i64 p.2.1, .int .i64 p.2.2] 38)).heap[wr.heap.size]? = some (.cells #[.int .i64 p.1, .int .i64 p.2.1, .int .i64 p.2.2] 38 (0, 0)) := blk_new wr _
        have hB1 := blk_alloc hB1 (.cells #[.int .i64 p.1, .int .i64 p.2.1, .int .i64 p.2.2] 38)
        have hL := hL.alloc hL.size (.cells #[.int .i64 p.1, .int .i64 p.2.1, .int .i64 p.2.2] 38)
        obtain ⟨q0, q1, q2⟩ := cs3 A0
        go_wp2_with (first
          | (go_at_call 17
             with_reducible refine Calls.mono (does_any g1 c s p.1 p.2.1 p.2.2 _ hB1) ?_
             rintro e w4 ⟨rfl, hC1, U1⟩
             have hL1 := Upd.below (B := w.heap.size) (w0 := w) hL U1 k1 hL.size))
        all_goals
          go_roundw
          case rel => exact ⟨k + 1, deed c s p.1 p.2.1 p.2.2, by omega, by go_num, hC1, okI_deed h.out HI.out _ _ _, hL1⟩
          case measure => simp [intOf]; omega
    · have hkk : ¬ ((k : Int) < ((min len 200 : Nat) : Int)) := by omega
      have hlt1 := blk_lt hB1
      have hSx1 := Aside0.mk (hSx.out s HI.out)
      have hSy1 := Aside0.mk (hSy.out ⟨s.I, wrap64 (s.n + 1), s.I⟩ HI.out)
      clear hSx hSy
      go_wp2_with (first
        | (go_at_call 15
           with_reducible refine Calls.mono (hSx1.out _ hB1) ?_
           rintro e w4 ⟨rfl, hC1, U1⟩
           have hL1 := Upd.below (B := w.heap.size) (w0 := w) hL U1 k1 hL.size
           have A1 := blk_new w4 (.cells #[.int .i64 1, .int .i64 s.I] 31)
           replace hC1 := blk_alloc hC1 (.cells #[.int .i64 1, .int .i64 s.I] 31)
           replace hL1 := hL1.alloc hL1.size (.cells #[.int .i64 1, .int .i64 s.I] 31)
           have hz := U1.size)
        | (go_at_call 15
           with_reducible refine Calls.mono (hSy1.out _ hC1) ?_
           rintro e w5 ⟨rfl, hD1, U2⟩
           have A2 := blk_alloc (U2.blk A1 (by omega)) (.cells #[.int .i64 1, .int .i64 s.I] 31)
           have hL2 := Upd.below (B := w.heap.size) (w0 := w) hL1 U2 k1 hL1.size
           have A3 := blk_new w5 (.cells #[.int .i64 1, .int .i64 s.I] 31)
           replace hD1 := blk_alloc hD1 (.cells #[.int .i64 1, .int .i64 s.I] 31)
           replace hL2 := hL2.alloc hL2.size (.cells #[.int .i64 1, .int .i64 s.I] 31)))
      obtain ⟨r0, r1⟩ := cs2 A2
      obtain ⟨t0, t1⟩ := cs2 A3
      go_region_held3 (fun w' => w'.cell? ⟨w4.heap.size, 0, none⟩ = some (.int .i64 1) ∧ w'.cell? ⟨w4.heap.size, 1, none⟩ = some (.int .i64 s.I) ∧ w'.cell? ⟨w5.heap.size, 0, none⟩ = some (.int .i64 1) ∧ w'.cell? ⟨w5.heap.size, 1, none⟩ = some (.int .i64 s.I))
        (first | go_keep | exact ⟨(cs2 A4).1, (cs2 A4).2, (cs2 A5).1, (cs2 A5).2⟩)
        (first
        | (go_at_call 18
           refine Calls.mono (freq_any g1 c.kp c.ki c.li c.sf c.sl _ _ _ _ (by exact hD1)) ?_
           rintro e w6 ⟨rfl, rfl⟩)
        | (go_at_call 14
           refine Calls.mono (awake_any _) ?_
           rintro e w7 ⟨rfl, L7⟩
           have A4 : w7.heap[w4.heap.size]? = some (.cells #[.int .i64 1, .int .i64 s.I] 31 (0, 0)) := blk_below (by exact A2) L7
           have A5 : w7.heap[w5.heap.size]? = some (.cells #[.int .i64 1, .int .i64 s.I] 31 (0, 0)) := blk_below (by exact A3) L7
           replace L7 := below_on hL2 L7 rfl rfl rfl rfl))
      all_goals go_wp2
      all_goals (go_ret; exact ⟨rfl, L7⟩)

set_option maxHeartbeats 4000000 in
theorem ServoRests_invalid (c : Conf) (A : Option Addr) (len cap : Nat) (x y : Value) (w : World) (h : ¬ okC c.kp c.ki c.li c.sf c.sl) :
    Calls Try.prog 6 #[.agg #[.int .i64 c.kp, .int .i64 c.ki, .int .i64 c.li, .int .i64 c.sf, .int .i64 c.sl], .slice A len cap, x, y] w fun e w' => e = .returned (.bool true) ∧ Below w.heap.size w w' := by
  have R0 : (w.alloc (confObj c)).heap[w.heap.size]? = some (.cells #[.int .i64 c.kp, .int .i64 c.ki, .int .i64 c.li, .int .i64 c.sf, .int .i64 c.sl] 23 (0, 0)) := blk_new w _
  have L0 : Below w.heap.size w (w.alloc (confObj c)) := (Below.refl _ _).alloc (Nat.le_refl _) _
  unfold confObj at R0 L0
  obtain ⟨c0, c1, c2, c3, c4⟩ := cs5 R0
  have hC := check_any c.kp c.ki c.li c.sf c.sl
  simp only [if_neg h] at hC
  replace hC := Aside0.mk hC
  have hN := fun W => new_no c.kp c.ki c.li c.sf c.sl W h
  replace hN := Aside0.mk hN
  clear h
  go_enter Try.func6, Try.ntmps6
  go_wp2
  go_region_held3 (fun w' => w'.cell? ⟨w.heap.size, 0, none⟩ = some (.int .i64 c.kp) ∧ w'.cell? ⟨w.heap.size, 1, none⟩ = some (.int .i64 c.ki) ∧ w'.cell? ⟨w.heap.size, 2, none⟩ = some (.int .i64 c.li) ∧ w'.cell? ⟨w.heap.size, 3, none⟩ = some (.int .i64 c.sf) ∧ w'.cell? ⟨w.heap.size, 4, none⟩ = some (.int .i64 c.sl))
    (first | go_keep | (exact cs5 (by assumption)))
    (first
    | (go_at_call 13
       refine Calls.mono (hN.out _) ?_
       rintro e w1 ⟨rfl, L1⟩
       have R1 : w1.heap[w.heap.size]? = some (.cells #[.int .i64 c.kp, .int .i64 c.ki, .int .i64 c.li, .int .i64 c.sf, .int .i64 c.sl] 23) := blk_below (by exact R0) L1
       replace L1 := below_on L0 L1 rfl rfl rfl rfl
       clear R0 L0)
    | (go_at_call 13
       refine Calls.mono (hN.out _) ?_
       rintro e w2 ⟨rfl, L2⟩
       have R2 : w2.heap[w.heap.size]? = some (.cells #[.int .i64 c.kp, .int .i64 c.ki, .int .i64 c.li, .int .i64 c.sf, .int .i64 c.sl] 23) := blk_below (by exact R1) L2
       replace L2 := below_on L1 L2 rfl rfl rfl rfl))
  all_goals
    clear c0 c1 c2 c3 c4
    obtain ⟨c0, c1, c2, c3, c4⟩ := cs5 R2
    go_wp2_with (first
      | (go_at_call 11
         with_reducible refine Calls.mono (hC.out _) ?_
         rintro e w3 ⟨rfl, L3⟩
         replace L3 := L2.trans (L3.mono L2.size))
      | (go_at_call 14
         with_reducible refine Calls.mono (awake_any _) ?_
         rintro e w4 ⟨rfl, L4⟩
         replace L4 := L3.trans (L4.mono L3.size)))
  all_goals (go_ret; exact ⟨rfl, L4⟩)
theorem wf_u32 {n : Int} (h : (Lit.int .u32 n).wf = true) : 0 ≤ n ∧ n ≤ 4294967295 := by
  simp only [Lit.wf, Bool.and_eq_true, decide_eq_true_eq] at h
  exact h
theorem ServoRests_walk (kp ki li sf sl : Int) (A : Option Addr) (len cap : Nat) (l : List (Int × Int × Int)) (x y : Int) (w : World) (w0 : (Lit.int .i64 kp).wf = true) (w1 : (Lit.int .i64 ki).wf = true) (w2 : (Lit.int .i64 li).wf = true) (w3 : (Lit.int .i64 sf).wf = true) (w4 : (Lit.int .i64 sl).wf = true) (hl : Deeds w A len cap l) (hx : (Lit.int .u32 x).wf = true) (hy : (Lit.int .u32 y).wf = true) :
    Calls Try.prog 6 #[.agg #[.int .i64 kp, .int .i64 ki, .int .i64 li, .int .i64 sf, .int .i64 sl], .slice A len cap, .int .u32 x, .int .u32 y] w fun e w' => e = .returned (.bool true) ∧ Below w.heap.size w w' := by
  by_cases h : okC kp ki li sf sl
  · exact ServoRests_valid ⟨kp, ki, li, sf, sl⟩ A len cap l x y w hl (wf_u32 hx).1 (wf_u32 hx).2 (wf_u32 hy).1 (wf_u32 hy).2 h
  · exact ServoRests_invalid ⟨kp, ki, li, sf, sl⟩ A len cap _ _ w h
end Go.Proofs.Ytimcdiombljajaa.Sv
