/- ServoBounded: walked. -/
import Derived.Test.YtimcdiombljajaaServoAgain
namespace Go.Proofs.Ytimcdiombljajaa.Sv
open Go Go.RowKit Go.Proofs.YtimcdiombljajaaW.PrintWords Go.Proofs.YtimcdiombljajaaW.PrintLast Go.Proofs.YtimcdiombljajaaW.PrintMore Go.Proofs.Ytimcdiombljajaa.PAll Go.Proofs.Ytimcdiombljajaa.PureDiv
attribute [local go_sem] max2_int min2_int max_two min_two max_three min_three max_four min_four
set_option linter.unusedVariables false
set_option linter.unusedSimpArgs false

theorem sample_out (b : Nat) (c : Conf) (I n la off span : Int) (w : World) (hb : w.heap[b]? = some (svo c ⟨I, n, la⟩)) (h : ¬ inS off span) :
    Calls Try.prog 15 #[.pointer (some ⟨b, 0, none⟩), .int .i64 off, .int .i64 span] w fun e w' => e = .returned (.tuple #[.agg #[.int .i64 0, .int .i64 0], .int .i64 3]) ∧ w'.heap[b]? = some (svo c ⟨I, n, la⟩) ∧ Upd w w' b :=
  sample_to b c _ _ _ _ _ off span w hb (by unfold act; rw [if_neg h]) (by unfold nxt; rw [if_neg h])
theorem sample_st (b : Nat) (c : Conf) (I n la off span : Int) (w : World) (hb : w.heap[b]? = some (svo c ⟨I, n, la⟩)) (h : inS off span) (hs : stepsS c.sf c.sl n off) :
    Calls Try.prog 15 #[.pointer (some ⟨b, 0, none⟩), .int .i64 off, .int .i64 span] w fun e w' => e = .returned (.tuple #[.agg #[.int .i64 2, .int .i64 off], .int .i64 0]) ∧ w'.heap[b]? = some (svo c ⟨I, wrap64 (n + 1), la⟩) ∧ Upd w w' b :=
  sample_to b c _ _ _ _ _ off span w hb (by unfold act; rw [if_pos h, if_pos hs]) (by unfold nxt; rw [if_pos h, if_pos hs])
theorem sample_fr {c : Conf} (hc : okC c.kp c.ki c.li c.sf c.sl) (b : Nat) (I n la off span : Int) (h : inS off span) (hs : ¬ stepsS c.sf c.sl n off) :
    ∃ F I', -c.li ≤ F ∧ F ≤ c.li ∧ ∀ (w : World) (hb : w.heap[b]? = some (svo c ⟨I, n, la⟩)),
    Calls Try.prog 15 #[.pointer (some ⟨b, 0, none⟩), .int .i64 off, .int .i64 span] w fun e w' => e = .returned (.tuple #[.agg #[.int .i64 1, .int .i64 F], .int .i64 0]) ∧ w'.heap[b]? = some (svo c ⟨I', wrap64 (n + 1), F⟩) ∧ Upd w w' b := by
  have hb2 := freqS_bd hc.2.2.1.1 hc.2.2.1.2 c.kp (ratioS off span) (intS c.ki c.li I (ratioS off span))
  exact ⟨_, _, hb2.1, hb2.2, fun w hb => sample_to b c _ _ _ _ _ off span w hb (by unfold act; rw [if_pos h, if_neg hs]) (by unfold nxt; rw [if_pos h, if_neg hs])⟩

set_option maxRecDepth 8000 in
set_option maxHeartbeats 4000000 in
theorem ServoBounded_valid (c : Conf) (A : Option Addr) (len cap : Nat) (l : List (Int × Int × Int)) (w : World) (hl : Deeds w A len cap l) (h : okC c.kp c.ki c.li c.sf c.sl) :
    Calls Try.prog 8 #[.agg #[.int .i64 c.kp, .int .i64 c.ki, .int .i64 c.li, .int .i64 c.sf, .int .i64 c.sl], .slice A len cap] w fun e w' => e = .returned (.bool true) ∧ Below w.heap.size w w' := by
  have R0 : (w.alloc (confObj c)).heap[w.heap.size]? = some (.cells #[.int .i64 c.kp, .int .i64 c.ki, .int .i64 c.li, .int .i64 c.sf, .int .i64 c.sl] 23 (0, 0)) := blk_new w _
  have L0 : Below w.heap.size w (w.alloc (confObj c)) := (Below.refl _ _).alloc (Nat.le_refl _) _
  unfold confObj at R0 L0
  obtain ⟨c0, c1, c2, c3, c4⟩ := cs5 R0
  have hN := fun W => new_ok c.kp c.ki c.li c.sf c.sl W h
  replace hN := Aside0.mk hN
  replace hl := Aside0.mk hl
  have hwl : wrap64 (-c.li) = -c.li := by unfold okC at h; exact w64_id (by omega) (by omega)
  replace h := Aside0.mk h
  go_enter Try.func8, Try.ntmps8
  go_wp2_with (first
    | (go_at_call 13
       with_reducible refine Calls.mono (hN.out _) ?_
       rintro e w1 ⟨g1, hg1, rfl, B1, L1⟩
       have R1 := blk_below R0 L1
       replace B1 : w1.heap[g1]? = some (svo c ⟨0, 0, 0⟩) := B1
       replace L1 := L0.trans (L1.mono L0.size))
    | (go_at_call 16
       refine Calls.mono (first_any hl.out _) ?_
       rintro e w4 ⟨rfl, rfl⟩))
  have k1 : w.heap.size < g1 := by simp at hg1; omega
  have hlt1 := blk_lt B1
  clear c0 c1 c2 c3 c4 R0 L0 hg1 hN
  go_loopw [6, 7, 26] (fun fv nv i wr => ∃ (k : Nat) (I n la : Int), k ≤ min len 200 ∧ i = .int .i64 k ∧ fv = .int .i64 la ∧ nv = .int .i64 n ∧ wr.heap[g1]? = some (svo c ⟨I, n, la⟩) ∧ wr.heap[w.heap.size]? = some (.cells #[.int .i64 c.kp, .int .i64 c.ki, .int .i64 c.li, .int .i64 c.sf, .int .i64 c.sl] 23 (0, 0)) ∧ Below w.heap.size w wr) (fun _ _ i _ => min len 200 - (intOf i).toNat)
  · exact ⟨0, 0, 0, 0, by omega, rfl, rfl, rfl, B1, R1, L1⟩
  · obtain ⟨k, I, n, la, hk, rfl, rfl, rfl, hB1, hCB, hL⟩ := hrel
    clear B1 R1 L1 hlt1
    by_cases hlt : k < min len 200
    · have hd := (hl.out.below hL).first
      obtain ⟨a, rfl⟩ : ∃ a, A = some a := by
        cases A with
        | none => have := hl.out.nil rfl; omega
        | some a => exact ⟨a, rfl⟩
      have hkl : k < (l.take 200).length := by rw [hd.cnt]; exact hlt
      obtain ⟨d0, d1, d2⟩ := hd.cell a rfl k _ (List.getElem?_eq_getElem hkl)
      generalize (l.take 200)[k] = p at *
      obtain ⟨pk, po, ps⟩ := p
      dsimp only at d0 d1 d2
      have hkk : (k : Int) < ((min len 200 : Nat) : Int) := by omega
      clear hd
      have hlt1 := blk_lt hB1
      have hlt2 := blk_lt hCB
      have A0 : (wr.alloc (.cells #[.int .i64 pk, .int .i64 po, .int .i64 ps] 38)).heap[wr.heap.size]? = some (.cells #[.int .i64 pk, .int .i64 po, .int .i64 ps] 38 (0, 0)) := blk_new wr _
      have hB1 := blk_alloc hB1 (.cells #[.int .i64 pk, .int .i64 po, .int .i64 ps] 38)
      have hCB := blk_alloc hCB (.cells #[.int .i64 pk, .int .i64 po, .int .i64 ps] 38)
      have hL := hL.alloc hL.size (.cells #[.int .i64 pk, .int .i64 po, .int .i64 ps] 38)
      have hne1 : w.heap.size ≠ g1 := by omega
      replace k1 : w.heap.size ≤ g1 := by omega
      have hne2 : wr.heap.size ≠ g1 := by omega
      obtain ⟨q0, q1, q2⟩ := cs3 A0
      by_cases hp : pk = 0
      · subst hp
        by_cases hin : inS po ps
        · by_cases hst : stepsS c.sf c.sl n po
          · have hS1 := Aside0.mk (fun W hb => sample_st g1 c I n la po ps W hb hin hst)
            have HS := Aside0.mk hst
            have e1 : ¬ (po < -1125899906842624) := by unfold inS at hin; omega
            have e2 : ¬ (1125899906842624 < po) := by unfold inS at hin; omega
            have e3 : ¬ (ps < 1) := by unfold inS at hin; omega
            have e4 : ¬ (1125899906842624 < ps) := by unfold inS at hin; omega
            clear hin hst
            go_wp2_with (first
              | (go_at_call 15
                 with_reducible refine Calls.mono (hS1.out _ hB1) ?_
                 rintro e w4 ⟨rfl, hC1, U1⟩
                 have hF1 := blk_alloc hC1 (.cells #[.int .i64 2, .int .i64 po] 31)
                 have A1 := blk_alloc (U1.blk A0 (by omega)) (.cells #[.int .i64 2, .int .i64 po] 31)
                 have A2 := blk_new w4 (.cells #[.int .i64 2, .int .i64 po] 31)
                 have hCB2 := blk_alloc (U1.blk hCB (by omega)) (.cells #[.int .i64 2, .int .i64 po] 31)
                 have hL1 := (Upd.below (B := w.heap.size) (w0 := w) hL U1 k1 hL.size)
                 replace hL1 := hL1.alloc hL1.size (.cells #[.int .i64 2, .int .i64 po] 31)
                 obtain ⟨q3, q4, q5⟩ := cs3 A1
                 obtain ⟨r0, r1⟩ := cs2 A2
                 obtain ⟨t0, t1, t2, t3, t4⟩ := cs5 hCB2)
              | (go_at_call 18
                 with_reducible refine Calls.mono (freq_svo g1 c _ _ _ _ hF1) ?_
                 rintro e w4 ⟨rfl, rfl⟩)
              | (go_at_call 24
                 with_reducible refine Calls.mono (samples_svo g1 c _ _ _ _ hF1) ?_
                 rintro e w4 ⟨rfl, rfl⟩))
            all_goals first
              | (go_roundw
                 case rel => exact ⟨k + 1, _, _, _, by omega, by go_num, rfl, rfl, hF1, hCB2, hL1⟩
                 case measure => simp [intOf]; omega)
              | (exfalso
                 first
                   | exact rests_first (by assumption) (by assumption) HS.out
                   | exact rests_first0 (by assumption) (by assumption) HS.out
                   | exact rests_later (by assumption) (by assumption) HS.out
                   | exact rests_later0 (by assumption) (by assumption) HS.out)
          · obtain ⟨F, I', hF0, hF1', hSS⟩ := sample_fr h.out g1 I n la po ps hin hst
            have hS1 := Aside0.mk hSS
            have HS := Aside0.mk hst
            have e1 : ¬ (po < -1125899906842624) := by unfold inS at hin; omega
            have e2 : ¬ (1125899906842624 < po) := by unfold inS at hin; omega
            have e3 : ¬ (ps < 1) := by unfold inS at hin; omega
            have e4 : ¬ (1125899906842624 < ps) := by unfold inS at hin; omega
            have e5 : ¬ (F < -c.li) := by omega
            have e6 : ¬ (c.li < F) := by omega
            clear hin hst hSS hF0 hF1'
            go_wp2_with (first
              | (go_at_call 15
                 with_reducible refine Calls.mono (hS1.out _ hB1) ?_
                 rintro e w4 ⟨rfl, hC1, U1⟩
                 have hF1 := blk_alloc hC1 (.cells #[.int .i64 1, .int .i64 F] 31)
                 have A1 := blk_alloc (U1.blk A0 (by omega)) (.cells #[.int .i64 1, .int .i64 F] 31)
                 have A2 := blk_new w4 (.cells #[.int .i64 1, .int .i64 F] 31)
                 have hCB2 := blk_alloc (U1.blk hCB (by omega)) (.cells #[.int .i64 1, .int .i64 F] 31)
                 have hL1 := (Upd.below (B := w.heap.size) (w0 := w) hL U1 k1 hL.size)
                 replace hL1 := hL1.alloc hL1.size (.cells #[.int .i64 1, .int .i64 F] 31)
                 obtain ⟨q3, q4, q5⟩ := cs3 A1
                 obtain ⟨r0, r1⟩ := cs2 A2
                 obtain ⟨t0, t1, t2, t3, t4⟩ := cs5 hCB2)
              | (go_at_call 18
                 with_reducible refine Calls.mono (freq_svo g1 c _ _ _ _ hF1) ?_
                 rintro e w4 ⟨rfl, rfl⟩)
              | (go_at_call 24
                 with_reducible refine Calls.mono (samples_svo g1 c _ _ _ _ hF1) ?_
                 rintro e w4 ⟨rfl, rfl⟩))
            all_goals first
              | (go_roundw
                 case rel => exact ⟨k + 1, _, _, _, by omega, by go_num, rfl, rfl, hF1, hCB2, hL1⟩
                 case measure => simp [intOf]; omega)
              | (exfalso
                 first
                   | exact HS.out (steps_first (by assumption) (by assumption) (by assumption))
                   | exact HS.out (steps_later (by assumption) (by assumption) (by assumption)))
        · have hS1 := Aside0.mk (fun W hb => sample_out g1 c I n la po ps W hb hin)
          have HR := Aside0.mk (show po < -1125899906842624 ∨ 1125899906842624 < po ∨ ps < 1 ∨ 1125899906842624 < ps by unfold inS at hin; omega)
          clear hin
          go_wp2_with (first
            | (go_at_call 15
               with_reducible refine Calls.mono (hS1.out _ hB1) ?_
               rintro e w4 ⟨rfl, hC1, U1⟩
               have hF1 := blk_alloc hC1 (.cells #[.int .i64 0, .int .i64 0] 31)
               have A1 := blk_alloc (U1.blk A0 (by omega)) (.cells #[.int .i64 0, .int .i64 0] 31)
               have A2 := blk_new w4 (.cells #[.int .i64 0, .int .i64 0] 31)
               have hCB2 := blk_alloc (U1.blk hCB (by omega)) (.cells #[.int .i64 0, .int .i64 0] 31)
               have hL1 := (Upd.below (B := w.heap.size) (w0 := w) hL U1 k1 hL.size)
               replace hL1 := hL1.alloc hL1.size (.cells #[.int .i64 0, .int .i64 0] 31)
               obtain ⟨q3, q4, q5⟩ := cs3 A1
               obtain ⟨r0, r1⟩ := cs2 A2
               obtain ⟨t0, t1, t2, t3, t4⟩ := cs5 hCB2)
            | (go_at_call 18
               with_reducible refine Calls.mono (freq_svo g1 c _ _ _ _ hF1) ?_
               rintro e w4 ⟨rfl, rfl⟩)
            | (go_at_call 24
               with_reducible refine Calls.mono (samples_svo g1 c _ _ _ _ hF1) ?_
               rintro e w4 ⟨rfl, rfl⟩))
          all_goals first
            | (go_roundw
               case rel => exact ⟨k + 1, _, _, _, by omega, by go_num, rfl, rfl, hF1, hCB2, hL1⟩
               case measure => simp [intOf]; omega)
            | (exfalso
               first
                 | (have hh := HR.out; omega))
      · have hpk : (pk == 0) = false := by simpa using hp
        by_cases hp1 : pk = 1
        · subst hp1
          go_wp2_with (first
            | (go_at_call 21
               with_reducible refine Calls.mono (reset_svo g1 c I n la _ hB1) ?_
               rintro e w4 ⟨rfl, hF1, U1⟩
               have A1 := U1.blk A0 (by omega)
               have hCB2 := U1.blk hCB (by omega)
               have hL1 := (Upd.below (B := w.heap.size) (w0 := w) hL U1 k1 hL.size)
               obtain ⟨q3, q4, q5⟩ := cs3 A1)
            | (go_at_call 18
               with_reducible refine Calls.mono (freq_svo g1 c _ _ _ _ hF1) ?_
               rintro e w4 ⟨rfl, rfl⟩)
            | (go_at_call 24
               with_reducible refine Calls.mono (samples_svo g1 c _ _ _ _ hF1) ?_
               rintro e w4 ⟨rfl, rfl⟩))
          all_goals
            go_roundw
            case rel => exact ⟨k + 1, _, _, _, by omega, by go_num, rfl, rfl, hF1, hCB2, hL1⟩
            case measure => simp [intOf]; omega
        · have hpk1 : (pk == 1) = false := by simpa using hp1
          go_wp2_with (first
            | (go_at_call 18
               with_reducible refine Calls.mono (freq_svo g1 c _ _ _ _ hB1) ?_
               rintro e w4 ⟨rfl, rfl⟩)
            | (go_at_call 24
               with_reducible refine Calls.mono (samples_svo g1 c _ _ _ _ hB1) ?_
               rintro e w4 ⟨rfl, rfl⟩))
          all_goals
            go_roundw
            case rel => exact ⟨k + 1, _, _, _, by omega, by go_num, rfl, rfl, hB1, hCB, hL⟩
            case measure => simp [intOf]; omega
    · have hkk : ¬ ((k : Int) < ((min len 200 : Nat) : Int)) := by omega
      go_wp2_with (first
        | (go_at_call 14
           with_reducible refine Calls.mono (awake_any _) ?_
           rintro e w6 ⟨rfl, L6⟩
           replace L6 := hL.trans (L6.mono hL.size)))
      all_goals (go_ret; exact ⟨rfl, L6⟩)

set_option maxHeartbeats 4000000 in
theorem ServoBounded_invalid (c : Conf) (A : Option Addr) (len cap : Nat) (w : World) (h : ¬ okC c.kp c.ki c.li c.sf c.sl) :
    Calls Try.prog 8 #[.agg #[.int .i64 c.kp, .int .i64 c.ki, .int .i64 c.li, .int .i64 c.sf, .int .i64 c.sl], .slice A len cap] w fun e w' => e = .returned (.bool true) ∧ Below w.heap.size w w' := by
  have R0 : (w.alloc (confObj c)).heap[w.heap.size]? = some (.cells #[.int .i64 c.kp, .int .i64 c.ki, .int .i64 c.li, .int .i64 c.sf, .int .i64 c.sl] 23 (0, 0)) := blk_new w _
  have L0 : Below w.heap.size w (w.alloc (confObj c)) := (Below.refl _ _).alloc (Nat.le_refl _) _
  unfold confObj at R0 L0
  obtain ⟨c0, c1, c2, c3, c4⟩ := cs5 R0
  have hC := check_any c.kp c.ki c.li c.sf c.sl
  simp only [if_neg h] at hC
  replace hC := Aside0.mk hC
  have hN := fun W => new_no c.kp c.ki c.li c.sf c.sl W h
  replace hN := Aside0.mk hN
  clear h
  go_enter Try.func8, Try.ntmps8
  go_wp2_with (first
    | (go_at_call 13
       with_reducible refine Calls.mono (hN.out _) ?_
       rintro e w2 ⟨rfl, L2⟩
       have R2 := blk_below R0 L2
       replace L2 := L0.trans (L2.mono L0.size)
       obtain ⟨q0, q1, q2, q3, q4⟩ := cs5 R2)
    | (go_at_call 11
       with_reducible refine Calls.mono (hC.out _) ?_
       rintro e w3 ⟨rfl, L3⟩
       replace L3 := L2.trans (L3.mono L2.size))
    | (go_at_call 14
       with_reducible refine Calls.mono (awake_any _) ?_
       rintro e w4 ⟨rfl, L4⟩
       replace L4 := L3.trans (L4.mono L3.size)))
  all_goals (go_ret; exact ⟨rfl, L4⟩)
theorem ServoBounded_walk (kp ki li sf sl : Int) (A : Option Addr) (len cap : Nat) (l : List (Int × Int × Int)) (w : World) (w0 : (Lit.int .i64 kp).wf = true) (w1 : (Lit.int .i64 ki).wf = true) (w2 : (Lit.int .i64 li).wf = true) (w3 : (Lit.int .i64 sf).wf = true) (w4 : (Lit.int .i64 sl).wf = true) (hl : Deeds w A len cap l) :
    Calls Try.prog 8 #[.agg #[.int .i64 kp, .int .i64 ki, .int .i64 li, .int .i64 sf, .int .i64 sl], .slice A len cap] w fun e w' => e = .returned (.bool true) ∧ Below w.heap.size w w' := by
  by_cases h : okC kp ki li sf sl
  · exact ServoBounded_valid ⟨kp, ki, li, sf, sl⟩ A len cap l w hl h
  · exact ServoBounded_invalid ⟨kp, ki, li, sf, sl⟩ A len cap w h
end Go.Proofs.Ytimcdiombljajaa.Sv
