/- ServoAgain: walked. -/
import Derived.Test.YtimcdiombljajaaServoRises
namespace Go.Proofs.Ytimcdiombljajaa.Sv
open Go Go.RowKit Go.Proofs.YtimcdiombljajaaW.PrintWords Go.Proofs.YtimcdiombljajaaW.PrintLast Go.Proofs.YtimcdiombljajaaW.PrintMore Go.Proofs.Ytimcdiombljajaa.PAll Go.Proofs.Ytimcdiombljajaa.PureDiv
attribute [local go_sem] max2_int min2_int max_two min_two max_three min_three max_four min_four
set_option linter.unusedVariables false
set_option linter.unusedSimpArgs false

theorem does_to (b : Nat) (c : Conf) (s s' : St) (k off span : Int) (w : World) (hb : w.heap[b]? = some (svo c s)) (h : deed c s k off span = s') :
    Calls Try.prog 17 #[.pointer (some ⟨b, 0, none⟩), .agg #[.int .i64 k, .int .i64 off, .int .i64 span]] w fun e w' =>
      e = .returned (.tuple #[]) ∧ w'.heap[b]? = some (svo c s') ∧ Upd w w' b := by
  subst h
  exact does_any b c s k off span w hb
theorem freq_svo (b : Nat) (c : Conf) (I n last : Int) (w : World) (hb : w.heap[b]? = some (svo c ⟨I, n, last⟩)) : Calls Try.prog 18 #[.pointer (some ⟨b, 0, none⟩)] w fun e w' => e = .returned (.int .i64 last) ∧ w = w' := freq_any b c.kp c.ki c.li c.sf c.sl I n last w hb
theorem samples_svo (b : Nat) (c : Conf) (I n last : Int) (w : World) (hb : w.heap[b]? = some (svo c ⟨I, n, last⟩)) : Calls Try.prog 24 #[.pointer (some ⟨b, 0, none⟩)] w fun e w' => e = .returned (.int .i64 n) ∧ w = w' := samples_any b c.kp c.ki c.li c.sf c.sl I n last w hb
theorem reset_svo (b : Nat) (c : Conf) (I n last : Int) (w : World) (hb : w.heap[b]? = some (svo c ⟨I, n, last⟩)) : Calls Try.prog 21 #[.pointer (some ⟨b, 0, none⟩)] w fun e w' => e = .returned (.tuple #[]) ∧ w'.heap[b]? = some (svo c ⟨0, 0, last⟩) ∧ Upd w w' b := reset_any b c.kp c.ki c.li c.sf c.sl I n last w hb

theorem act_same (c : Conf) (I n la lb off span : Int) : act c ⟨I, n, lb⟩ off span = act c ⟨I, n, la⟩ off span := rfl
theorem nxt_same {c : Conf} {I n la lb off span I' n' la' ka va ea : Int} (h : nxt c ⟨I, n, la⟩ off span = ⟨I', n', la'⟩) (hx : act c ⟨I, n, la⟩ off span = (ka, va, ea)) :
    (ka = 1 ∧ nxt c ⟨I, n, lb⟩ off span = ⟨I', n', la'⟩) ∨ (ka ≠ 1 ∧ la' = la ∧ nxt c ⟨I, n, lb⟩ off span = ⟨I', n', lb⟩) := by
  unfold nxt act at *
  by_cases hin : inS off span
  · rw [if_pos hin] at h hx ⊢
    by_cases hs : stepsS c.sf c.sl n off
    · rw [if_pos hs] at h hx ⊢
      injection hx with h1 _
      injection h with e1 e2 e3
      refine .inr ⟨by omega, e3.symm, ?_⟩
      rw [← e1, ← e2]
    · rw [if_neg hs] at h hx ⊢
      injection hx with h1 _
      exact .inl ⟨h1.symm, h⟩
  · rw [if_neg hin] at h hx ⊢
    injection hx with h1 _
    injection h with e1 e2 e3
    refine .inr ⟨by omega, e3.symm, ?_⟩
    rw [← e1, ← e2]
theorem deed_other (c : Conf) (I n k off span : Int) (hk : k ≠ 0) : ∃ I' n', ∀ last, deed c ⟨I, n, last⟩ k off span = ⟨I', n', last⟩ := by
  unfold deed
  by_cases h1 : k = 1
  · exact ⟨0, 0, fun last => by rw [if_neg hk, if_pos h1]⟩
  · exact ⟨I, n, fun last => by rw [if_neg hk, if_neg h1]⟩

set_option maxRecDepth 8000 in
set_option maxHeartbeats 4000000 in
theorem ServoAgain_valid (c : Conf) (A : Option Addr) (len cap : Nat) (l : List (Int × Int × Int)) (A' : Option Addr) (len' cap' : Nat) (l' : List (Int × Int × Int)) (w : World) (hl : Deeds w A len cap l) (hl' : Deeds w A' len' cap' l') (h : okC c.kp c.ki c.li c.sf c.sl) :
    Calls Try.prog 9 #[.agg #[.int .i64 c.kp, .int .i64 c.ki, .int .i64 c.li, .int .i64 c.sf, .int .i64 c.sl], .slice A len cap, .slice A' len' cap'] w fun e w' => e = .returned (.bool true) ∧ Below w.heap.size w w' := by
  have R0 : (w.alloc (confObj c)).heap[w.heap.size]? = some (.cells #[.int .i64 c.kp, .int .i64 c.ki, .int .i64 c.li, .int .i64 c.sf, .int .i64 c.sl] 23 (0, 0)) := blk_new w _
  have L0 : Below w.heap.size w (w.alloc (confObj c)) := (Below.refl _ _).alloc (Nat.le_refl _) _
  unfold confObj at R0 L0
  obtain ⟨c0, c1, c2, c3, c4⟩ := cs5 R0
  have hN := fun W => new_ok c.kp c.ki c.li c.sf c.sl W h
  replace hN := Aside0.mk hN
  replace hl := Aside0.mk hl
  replace hl' := Aside0.mk hl'
  replace h := Aside0.mk h
  go_enter Try.func9, Try.ntmps9
  go_wp2
  go_region_held3 (fun w' => w'.cell? ⟨w.heap.size, 0, none⟩ = some (.int .i64 c.kp) ∧ w'.cell? ⟨w.heap.size, 1, none⟩ = some (.int .i64 c.ki) ∧ w'.cell? ⟨w.heap.size, 2, none⟩ = some (.int .i64 c.li) ∧ w'.cell? ⟨w.heap.size, 3, none⟩ = some (.int .i64 c.sf) ∧ w'.cell? ⟨w.heap.size, 4, none⟩ = some (.int .i64 c.sl))
    (first | go_keep | (exact cs5 (by assumption)))
    (first
    | (go_at_call 13
       refine Calls.mono (hN.out _) ?_
       rintro e w1 ⟨g1, hg1, rfl, B1, L1⟩
       have R1 : w1.heap[w.heap.size]? = some (.cells #[.int .i64 c.kp, .int .i64 c.ki, .int .i64 c.li, .int .i64 c.sf, .int .i64 c.sl] 23) := blk_below (by exact R0) L1
       replace L1 := below_on L0 L1 rfl rfl rfl rfl
       clear R0 L0)
    | (go_at_call 13
       refine Calls.mono (hN.out _) ?_
       rintro e w2 ⟨g2, hg2, rfl, B2, L2⟩
       have R2 : w2.heap[w.heap.size]? = some (.cells #[.int .i64 c.kp, .int .i64 c.ki, .int .i64 c.li, .int .i64 c.sf, .int .i64 c.sl] 23) := blk_below (by exact R1) L2
       have B3 : w2.heap[g1]? = some (svo c ⟨0, 0, 0⟩) := blk_below (by exact B1) L2
       replace L2 := below_on L1 L2 rfl rfl rfl rfl))
  have hs1 := L1.size
  have hs2 := L2.size
  have k1 : w.heap.size ≤ g1 := by simp at hg1; omega
  have k2 : w.heap.size ≤ g2 := by omega
  have hlt1 := blk_lt B1
  have hne : g1 ≠ g2 := by omega
  clear c0 c1 c2 c3 c4 R1 R2 B1 L1 hg1 hg2 hN hs1 hs2 hlt1
  go_wp2_with (first
    | (go_at_call 16
       refine Calls.mono (first_any hl.out _) ?_
       rintro e w4 ⟨rfl, rfl⟩))
  have hlt4 := blk_lt B3
  go_loopw [38] (fun i wr => ∃ (k : Nat) (s : St), k ≤ min len 200 ∧ i = .int .i64 k ∧ wr.heap[g1]? = some (svo c s) ∧ wr.heap[g2]? = some (svo c ⟨0, 0, 0⟩) ∧ Below w.heap.size w wr) (fun i _ => min len 200 - (intOf i).toNat)
  · exact ⟨0, ⟨0, 0, 0⟩, by omega, rfl, B3, B2, L2⟩
  · obtain ⟨k, s, hk, rfl, hB1, hB2, hL⟩ := hrel
    clear B3 B2 L2 hlt4
    by_cases hlt : k < min len 200
    · have hd := (hl.out.below hL).first
      cases A with
      | none => have := hl.out.nil rfl; omega
      | some a =>
        have hkl : k < (l.take 200).length := by rw [hd.cnt]; exact hlt
        obtain ⟨d0, d1, d2⟩ := hd.cell a rfl k _ (List.getElem?_eq_getElem hkl)
        generalize (l.take 200)[k] = p at *
        have hkk : (k : Int) < ((min len 200 : Nat) : Int) := by omega
        clear hd
        have A0 : (wr.alloc (.cells #[.int .i64 p.1, .int .i64 p.2.1, .int .i64 p.2.2] 38)).heap[wr.heap.size]? = some (.cells #[.int .i64 p.1, .int .i64 p.2.1, .int .i64 p.2.2] 38 (0, 0)) := blk_new wr _
        have hB2 := blk_alloc hB2 (.cells #[.int .i64 p.1, .int .i64 p.2.1, .int .i64 p.2.2] 38)
        have hB1 := blk_alloc hB1 (.cells #[.int .i64 p.1, .int .i64 p.2.1, .int .i64 p.2.2] 38)
        have hL := hL.alloc hL.size (.cells #[.int .i64 p.1, .int .i64 p.2.1, .int .i64 p.2.2] 38)
        obtain ⟨q0, q1, q2⟩ := cs3 A0
        go_wp2_with (first
          | (go_at_call 17
             with_reducible refine Calls.mono (does_any g1 c s p.1 p.2.1 p.2.2 _ hB1) ?_
             rintro e w4 ⟨rfl, hC1, U1⟩
             have hC2 := U1.blk hB2 (Ne.symm hne)
             have hL1 := Upd.below (B := w.heap.size) (w0 := w) hL U1 k1 hL.size))
        all_goals
          go_roundw
          case rel => exact ⟨k + 1, deed c s p.1 p.2.1 p.2.2, by omega, by go_num, hC1, hC2, hL1⟩
          case measure => simp [intOf]; omega
    · have hkk : ¬ ((k : Int) < ((min len 200 : Nat) : Int)) := by omega
      obtain ⟨I0, n0, fr⟩ := s
      go_wp2_with (first
        | (go_at_call 18
           with_reducible refine Calls.mono (freq_svo g1 c I0 n0 fr _ hB1) ?_
           rintro e w4 ⟨rfl, rfl⟩)
        | (go_at_call 21
           with_reducible refine Calls.mono (reset_svo g1 c I0 n0 fr _ hB1) ?_
           rintro e w5 ⟨rfl, hC1, U1⟩
           have hC2 := U1.blk hB2 (Ne.symm hne)
           have hL1 := Upd.below (B := w.heap.size) (w0 := w) hL U1 k1 hL.size)
        | (go_at_call 18
           with_reducible refine Calls.mono (freq_svo g1 c 0 0 fr _ hC1) ?_
           rintro e w4 ⟨rfl, rfl⟩)
        | (go_at_call 24
           with_reducible refine Calls.mono (samples_svo g1 c 0 0 fr _ hC1) ?_
           rintro e w4 ⟨rfl, rfl⟩)
        | (go_at_call 16
           refine Calls.mono (first_any hl'.out _) ?_
           rintro e w4 ⟨rfl, rfl⟩))
      have hlt4 := blk_lt hC1
      clear hB1 hB2 hL
      go_loopw [12, 62] (fun sv i wr => ∃ (k : Nat) (I n la lb : Int) (st : Bool), k ≤ min len' 200 ∧ i = .int .i64 k ∧ sv = .bool st ∧ wr.heap[g1]? = some (svo c ⟨I, n, la⟩) ∧ wr.heap[g2]? = some (svo c ⟨I, n, lb⟩) ∧ (st = true → la = lb) ∧ (st = false → la = fr) ∧ Below w.heap.size w wr) (fun _ i _ => min len' 200 - (intOf i).toNat)
      · exact ⟨0, 0, 0, fr, 0, false, by omega, rfl, rfl, hC1, hC2, (fun h => by cases h), fun _ => rfl, hL1⟩
      · obtain ⟨k, I, n, la, lb, st, hk, rfl, rfl, hB1, hB2, hst1, hst0, hL⟩ := hrel
        clear hC1 hC2 hL1 hlt4
        by_cases hlt : k < min len' 200
        · have hd := (hl'.out.below hL).first
          obtain ⟨a, rfl⟩ : ∃ a, A' = some a := by
            cases A' with
            | none => have := hl'.out.nil rfl; omega
            | some a => exact ⟨a, rfl⟩
          have hkl : k < (l'.take 200).length := by rw [hd.cnt]; exact hlt
          obtain ⟨d0, d1, d2⟩ := hd.cell a rfl k _ (List.getElem?_eq_getElem hkl)
          generalize (l'.take 200)[k] = p at *
          obtain ⟨pk, po, ps⟩ := p
          dsimp only at d0 d1 d2
          have hkk : (k : Int) < ((min len' 200 : Nat) : Int) := by omega
          clear hd
          have hlt1 := blk_lt hB1
          have hlt2 := blk_lt hB2
          have A0 : (wr.alloc (.cells #[.int .i64 pk, .int .i64 po, .int .i64 ps] 38)).heap[wr.heap.size]? = some (.cells #[.int .i64 pk, .int .i64 po, .int .i64 ps] 38 (0, 0)) := blk_new wr _
          have hB1 := blk_alloc hB1 (.cells #[.int .i64 pk, .int .i64 po, .int .i64 ps] 38)
          have hB2 := blk_alloc hB2 (.cells #[.int .i64 pk, .int .i64 po, .int .i64 ps] 38)
          have hL := hL.alloc hL.size (.cells #[.int .i64 pk, .int .i64 po, .int .i64 ps] 38)
          obtain ⟨q0, q1, q2⟩ := cs3 A0
          have hg1 : g1 ≠ wr.heap.size := by omega
          have hg2 : g2 ≠ wr.heap.size := by omega
          by_cases hp : pk = 0
          · subst hp
            rcases hx : act c ⟨I, n, la⟩ po ps with ⟨ka, va, ea⟩
            rcases hn : nxt c ⟨I, n, la⟩ po ps with ⟨I', n', la'⟩
            have hy : act c ⟨I, n, lb⟩ po ps = (ka, va, ea) := hx
            have hS1 := Aside0.mk (fun W hb => sample_to g1 c _ _ _ _ _ _ _ W hb hx hn)
            rcases nxt_same (lb := lb) hn hx with ⟨hka, hn2⟩ | ⟨hka, hla, hn2⟩
            · have hS2 := Aside0.mk (fun W hb => sample_to g2 c _ _ _ _ _ _ _ W hb hy hn2)
              clear hx hn hy hn2 hst1 hst0
              subst hka
              cases st
              · go_wp2_with (first
                  | (go_at_call 15
                     with_reducible refine Calls.mono (hS1.out _ hB1) ?_
                     rintro e w4 ⟨rfl, hC1, U1⟩
                     have hC2 := blk_alloc (U1.blk hB2 (Ne.symm hne)) (.cells #[.int .i64 1, .int .i64 va] 31)
                     have A1 := blk_alloc (U1.blk A0 (by omega)) (.cells #[.int .i64 1, .int .i64 va] 31)
                     have A2 := blk_new w4 (.cells #[.int .i64 1, .int .i64 va] 31)
                     have hL1 := (Upd.below (B := w.heap.size) (w0 := w) hL U1 k1 hL.size)
                     replace hL1 := hL1.alloc hL1.size (.cells #[.int .i64 1, .int .i64 va] 31)
                     replace hC1 := blk_alloc hC1 (.cells #[.int .i64 1, .int .i64 va] 31)
                     have hz := U1.size
                     simp at hz
                     obtain ⟨q3, q4, q5⟩ := cs3 A1)
                  | (go_at_call 15
                     with_reducible refine Calls.mono (hS2.out _ hC2) ?_
                     rintro e w5 ⟨rfl, hD2, U2⟩
                     have hF1 := blk_alloc (U2.blk hC1 hne) (.cells #[.int .i64 1, .int .i64 va] 31)
                     have A3 := blk_alloc (U2.blk A2 (by omega)) (.cells #[.int .i64 1, .int .i64 va] 31)
                     have A4 := blk_new w5 (.cells #[.int .i64 1, .int .i64 va] 31)
                     have hF2 := blk_alloc hD2 (.cells #[.int .i64 1, .int .i64 va] 31)
                     have hL2 := (Upd.below (B := w.heap.size) (w0 := w) hL1 U2 k2 hL1.size)
                     replace hL2 := hL2.alloc hL2.size (.cells #[.int .i64 1, .int .i64 va] 31)
                     obtain ⟨r0, r1⟩ := cs2 A3
                     obtain ⟨t0, t1⟩ := cs2 A4)
                  | (go_at_call 24
                     with_reducible refine Calls.mono (samples_svo g1 c I' n' la' _ hF1) ?_
                     rintro e w4 ⟨rfl, rfl⟩)
                  | (go_at_call 24
                     with_reducible refine Calls.mono (samples_svo g2 c I' n' la' _ hF2) ?_
                     rintro e w4 ⟨rfl, rfl⟩)
                  | (go_at_call 18
                     with_reducible refine Calls.mono (freq_svo g1 c I' n' la' _ hF1) ?_
                     rintro e w4 ⟨rfl, rfl⟩)
                  | (go_at_call 18
                     with_reducible refine Calls.mono (freq_svo g2 c I' n' la' _ hF2) ?_
                     rintro e w4 ⟨rfl, rfl⟩))
                all_goals
                  go_roundw
                  case rel => exact ⟨k + 1, I', n', la', la', true, by omega, by go_num, by go_num, hF1, hF2, fun _ => rfl, (fun h => by cases h), hL2⟩
                  case measure => simp [intOf]; omega
              · go_wp2_with (first
                  | (go_at_call 15
                     with_reducible refine Calls.mono (hS1.out _ hB1) ?_
                     rintro e w4 ⟨rfl, hC1, U1⟩
                     have hC2 := blk_alloc (U1.blk hB2 (Ne.symm hne)) (.cells #[.int .i64 1, .int .i64 va] 31)
                     have A1 := blk_alloc (U1.blk A0 (by omega)) (.cells #[.int .i64 1, .int .i64 va] 31)
                     have A2 := blk_new w4 (.cells #[.int .i64 1, .int .i64 va] 31)
                     have hL1 := (Upd.below (B := w.heap.size) (w0 := w) hL U1 k1 hL.size)
                     replace hL1 := hL1.alloc hL1.size (.cells #[.int .i64 1, .int .i64 va] 31)
                     replace hC1 := blk_alloc hC1 (.cells #[.int .i64 1, .int .i64 va] 31)
                     have hz := U1.size
                     simp at hz
                     obtain ⟨q3, q4, q5⟩ := cs3 A1)
                  | (go_at_call 15
                     with_reducible refine Calls.mono (hS2.out _ hC2) ?_
                     rintro e w5 ⟨rfl, hD2, U2⟩
                     have hF1 := blk_alloc (U2.blk hC1 hne) (.cells #[.int .i64 1, .int .i64 va] 31)
                     have A3 := blk_alloc (U2.blk A2 (by omega)) (.cells #[.int .i64 1, .int .i64 va] 31)
                     have A4 := blk_new w5 (.cells #[.int .i64 1, .int .i64 va] 31)
                     have hF2 := blk_alloc hD2 (.cells #[.int .i64 1, .int .i64 va] 31)
                     have hL2 := (Upd.below (B := w.heap.size) (w0 := w) hL1 U2 k2 hL1.size)
                     replace hL2 := hL2.alloc hL2.size (.cells #[.int .i64 1, .int .i64 va] 31)
                     obtain ⟨r0, r1⟩ := cs2 A3
                     obtain ⟨t0, t1⟩ := cs2 A4)
                  | (go_at_call 24
                     with_reducible refine Calls.mono (samples_svo g1 c I' n' la' _ hF1) ?_
                     rintro e w4 ⟨rfl, rfl⟩)
                  | (go_at_call 24
                     with_reducible refine Calls.mono (samples_svo g2 c I' n' la' _ hF2) ?_
                     rintro e w4 ⟨rfl, rfl⟩)
                  | (go_at_call 18
                     with_reducible refine Calls.mono (freq_svo g1 c I' n' la' _ hF1) ?_
                     rintro e w4 ⟨rfl, rfl⟩)
                  | (go_at_call 18
                     with_reducible refine Calls.mono (freq_svo g2 c I' n' la' _ hF2) ?_
                     rintro e w4 ⟨rfl, rfl⟩))
                all_goals
                  go_roundw
                  case rel => exact ⟨k + 1, I', n', la', la', true, by omega, by go_num, by go_num, hF1, hF2, fun _ => rfl, (fun h => by cases h), hL2⟩
                  case measure => simp [intOf]; omega
            · have hS2 := Aside0.mk (fun W hb => sample_to g2 c _ _ _ _ _ _ _ W hb hy hn2)
              clear hx hn hy hn2
              subst hla
              have hkb : (ka == 1) = false := by simpa using hka
              cases st
              · have hfr := hst0 rfl
                subst hfr
                clear hst1 hst0
                go_wp2_with (first
                  | (go_at_call 15
                     with_reducible refine Calls.mono (hS1.out _ hB1) ?_
                     rintro e w4 ⟨rfl, hC1, U1⟩
                     have hC2 := blk_alloc (U1.blk hB2 (Ne.symm hne)) (.cells #[.int .i64 ka, .int .i64 va] 31)
                     have A1 := blk_alloc (U1.blk A0 (by omega)) (.cells #[.int .i64 ka, .int .i64 va] 31)
                     have A2 := blk_new w4 (.cells #[.int .i64 ka, .int .i64 va] 31)
                     have hL1 := (Upd.below (B := w.heap.size) (w0 := w) hL U1 k1 hL.size)
                     replace hL1 := hL1.alloc hL1.size (.cells #[.int .i64 ka, .int .i64 va] 31)
                     replace hC1 := blk_alloc hC1 (.cells #[.int .i64 ka, .int .i64 va] 31)
                     have hz := U1.size
                     simp at hz
                     obtain ⟨q3, q4, q5⟩ := cs3 A1)
                  | (go_at_call 15
                     with_reducible refine Calls.mono (hS2.out _ hC2) ?_
                     rintro e w5 ⟨rfl, hD2, U2⟩
                     have hF1 := blk_alloc (U2.blk hC1 hne) (.cells #[.int .i64 ka, .int .i64 va] 31)
                     have A3 := blk_alloc (U2.blk A2 (by omega)) (.cells #[.int .i64 ka, .int .i64 va] 31)
                     have A4 := blk_new w5 (.cells #[.int .i64 ka, .int .i64 va] 31)
                     have hF2 := blk_alloc hD2 (.cells #[.int .i64 ka, .int .i64 va] 31)
                     have hL2 := (Upd.below (B := w.heap.size) (w0 := w) hL1 U2 k2 hL1.size)
                     replace hL2 := hL2.alloc hL2.size (.cells #[.int .i64 ka, .int .i64 va] 31)
                     obtain ⟨r0, r1⟩ := cs2 A3
                     obtain ⟨t0, t1⟩ := cs2 A4)
                  | (go_at_call 24
                     with_reducible refine Calls.mono (samples_svo g1 c I' n' la' _ hF1) ?_
                     rintro e w4 ⟨rfl, rfl⟩)
                  | (go_at_call 24
                     with_reducible refine Calls.mono (samples_svo g2 c I' n' lb _ hF2) ?_
                     rintro e w4 ⟨rfl, rfl⟩)
                  | (go_at_call 18
                     with_reducible refine Calls.mono (freq_svo g1 c I' n' la' _ hF1) ?_
                     rintro e w4 ⟨rfl, rfl⟩)
                  | (go_at_call 18
                     with_reducible refine Calls.mono (freq_svo g2 c I' n' lb _ hF2) ?_
                     rintro e w4 ⟨rfl, rfl⟩))
                all_goals
                  go_roundw
                  case rel => exact ⟨k + 1, I', n', la', lb, false, by omega, by go_num, by go_num, hF1, hF2, (fun h => by cases h), fun _ => rfl, hL2⟩
                  case measure => simp [intOf]; omega
              · have hfr := hst1 rfl
                subst hfr
                clear hst1 hst0
                go_wp2_with (first
                  | (go_at_call 15
                     with_reducible refine Calls.mono (hS1.out _ hB1) ?_
                     rintro e w4 ⟨rfl, hC1, U1⟩
                     have hC2 := blk_alloc (U1.blk hB2 (Ne.symm hne)) (.cells #[.int .i64 ka, .int .i64 va] 31)
                     have A1 := blk_alloc (U1.blk A0 (by omega)) (.cells #[.int .i64 ka, .int .i64 va] 31)
                     have A2 := blk_new w4 (.cells #[.int .i64 ka, .int .i64 va] 31)
                     have hL1 := (Upd.below (B := w.heap.size) (w0 := w) hL U1 k1 hL.size)
                     replace hL1 := hL1.alloc hL1.size (.cells #[.int .i64 ka, .int .i64 va] 31)
                     replace hC1 := blk_alloc hC1 (.cells #[.int .i64 ka, .int .i64 va] 31)
                     have hz := U1.size
                     simp at hz
                     obtain ⟨q3, q4, q5⟩ := cs3 A1)
                  | (go_at_call 15
                     with_reducible refine Calls.mono (hS2.out _ hC2) ?_
                     rintro e w5 ⟨rfl, hD2, U2⟩
                     have hF1 := blk_alloc (U2.blk hC1 hne) (.cells #[.int .i64 ka, .int .i64 va] 31)
                     have A3 := blk_alloc (U2.blk A2 (by omega)) (.cells #[.int .i64 ka, .int .i64 va] 31)
                     have A4 := blk_new w5 (.cells #[.int .i64 ka, .int .i64 va] 31)
                     have hF2 := blk_alloc hD2 (.cells #[.int .i64 ka, .int .i64 va] 31)
                     have hL2 := (Upd.below (B := w.heap.size) (w0 := w) hL1 U2 k2 hL1.size)
                     replace hL2 := hL2.alloc hL2.size (.cells #[.int .i64 ka, .int .i64 va] 31)
                     obtain ⟨r0, r1⟩ := cs2 A3
                     obtain ⟨t0, t1⟩ := cs2 A4)
                  | (go_at_call 24
                     with_reducible refine Calls.mono (samples_svo g1 c I' n' la' _ hF1) ?_
                     rintro e w4 ⟨rfl, rfl⟩)
                  | (go_at_call 24
                     with_reducible refine Calls.mono (samples_svo g2 c I' n' la' _ hF2) ?_
                     rintro e w4 ⟨rfl, rfl⟩)
                  | (go_at_call 18
                     with_reducible refine Calls.mono (freq_svo g1 c I' n' la' _ hF1) ?_
                     rintro e w4 ⟨rfl, rfl⟩)
                  | (go_at_call 18
                     with_reducible refine Calls.mono (freq_svo g2 c I' n' la' _ hF2) ?_
                     rintro e w4 ⟨rfl, rfl⟩))
                all_goals
                  go_roundw
                  case rel => exact ⟨k + 1, I', n', la', la', true, by omega, by go_num, by go_num, hF1, hF2, fun _ => rfl, (fun h => by cases h), hL2⟩
                  case measure => simp [intOf]; omega
          · obtain ⟨I', n', hdd⟩ := deed_other c I n pk po ps hp
            have hS1 := Aside0.mk (fun W hb => does_to g1 c _ _ pk po ps W hb (hdd la))
            have hS2 := Aside0.mk (fun W hb => does_to g2 c _ _ pk po ps W hb (hdd lb))
            have hpk : (pk == 0) = false := by simpa using hp
            clear hdd
            cases st
            · have hfr := hst0 rfl
              subst hfr
              clear hst1 hst0
              go_wp2_with (first
                | (go_at_call 17
                   with_reducible refine Calls.mono (hS1.out _ hB1) ?_
                   rintro e w4 ⟨rfl, hC1, U1⟩
                   have hC2 := U1.blk hB2 (Ne.symm hne)
                   have A1 := U1.blk A0 (by omega)
                   have hL1 := (Upd.below (B := w.heap.size) (w0 := w) hL U1 k1 hL.size)
                   obtain ⟨q3, q4, q5⟩ := cs3 A1)
                | (go_at_call 17
                   with_reducible refine Calls.mono (hS2.out _ hC2) ?_
                   rintro e w5 ⟨rfl, hF2, U2⟩
                   have hF1 := U2.blk hC1 hne
                   have hL2 := (Upd.below (B := w.heap.size) (w0 := w) hL1 U2 k2 hL1.size))
                | (go_at_call 24
                   with_reducible refine Calls.mono (samples_svo g1 c I' n' la _ hF1) ?_
                   rintro e w4 ⟨rfl, rfl⟩)
                | (go_at_call 24
                   with_reducible refine Calls.mono (samples_svo g2 c I' n' lb _ hF2) ?_
                   rintro e w4 ⟨rfl, rfl⟩)
                | (go_at_call 18
                   with_reducible refine Calls.mono (freq_svo g1 c I' n' la _ hF1) ?_
                   rintro e w4 ⟨rfl, rfl⟩)
                | (go_at_call 18
                   with_reducible refine Calls.mono (freq_svo g2 c I' n' lb _ hF2) ?_
                   rintro e w4 ⟨rfl, rfl⟩))
              all_goals
                go_roundw
                case rel => exact ⟨k + 1, I', n', la, lb, false, by omega, by go_num, by go_num, hF1, hF2, (fun h => by cases h), fun _ => rfl, hL2⟩
                case measure => simp [intOf]; omega
            · have hfr := hst1 rfl
              subst hfr
              clear hst1 hst0
              go_wp2_with (first
                | (go_at_call 17
                   with_reducible refine Calls.mono (hS1.out _ hB1) ?_
                   rintro e w4 ⟨rfl, hC1, U1⟩
                   have hC2 := U1.blk hB2 (Ne.symm hne)
                   have A1 := U1.blk A0 (by omega)
                   have hL1 := (Upd.below (B := w.heap.size) (w0 := w) hL U1 k1 hL.size)
                   obtain ⟨q3, q4, q5⟩ := cs3 A1)
                | (go_at_call 17
                   with_reducible refine Calls.mono (hS2.out _ hC2) ?_
                   rintro e w5 ⟨rfl, hF2, U2⟩
                   have hF1 := U2.blk hC1 hne
                   have hL2 := (Upd.below (B := w.heap.size) (w0 := w) hL1 U2 k2 hL1.size))
                | (go_at_call 24
                   with_reducible refine Calls.mono (samples_svo g1 c I' n' la _ hF1) ?_
                   rintro e w4 ⟨rfl, rfl⟩)
                | (go_at_call 24
                   with_reducible refine Calls.mono (samples_svo g2 c I' n' la _ hF2) ?_
                   rintro e w4 ⟨rfl, rfl⟩)
                | (go_at_call 18
                   with_reducible refine Calls.mono (freq_svo g1 c I' n' la _ hF1) ?_
                   rintro e w4 ⟨rfl, rfl⟩)
                | (go_at_call 18
                   with_reducible refine Calls.mono (freq_svo g2 c I' n' la _ hF2) ?_
                   rintro e w4 ⟨rfl, rfl⟩))
              all_goals
                go_roundw
                case rel => exact ⟨k + 1, I', n', la, la, true, by omega, by go_num, by go_num, hF1, hF2, fun _ => rfl, (fun h => by cases h), hL2⟩
                case measure => simp [intOf]; omega
        · have hkk : ¬ ((k : Int) < ((min len' 200 : Nat) : Int)) := by omega
          go_wp2_with (first
            | (go_at_call 14
               with_reducible refine Calls.mono (awake_any _) ?_
               rintro e w6 ⟨rfl, L6⟩
               replace L6 := hL.trans (L6.mono hL.size)))
          all_goals (go_ret; exact ⟨rfl, L6⟩)

set_option maxHeartbeats 4000000 in
theorem ServoAgain_invalid (c : Conf) (A : Option Addr) (len cap : Nat) (x : Value) (w : World) (h : ¬ okC c.kp c.ki c.li c.sf c.sl) :
    Calls Try.prog 9 #[.agg #[.int .i64 c.kp, .int .i64 c.ki, .int .i64 c.li, .int .i64 c.sf, .int .i64 c.sl], .slice A len cap, x] w fun e w' => e = .returned (.bool true) ∧ Below w.heap.size w w' := by
  have R0 : (w.alloc (confObj c)).heap[w.heap.size]? = some (.cells #[.int .i64 c.kp, .int .i64 c.ki, .int .i64 c.li, .int .i64 c.sf, .int .i64 c.sl] 23 (0, 0)) := blk_new w _
  have L0 : Below w.heap.size w (w.alloc (confObj c)) := (Below.refl _ _).alloc (Nat.le_refl _) _
  unfold confObj at R0 L0
  obtain ⟨c0, c1, c2, c3, c4⟩ := cs5 R0
  have hC := check_any c.kp c.ki c.li c.sf c.sl
  simp only [if_neg h] at hC
  replace hC := Aside0.mk hC
  have hN := fun W => new_no c.kp c.ki c.li c.sf c.sl W h
  replace hN := Aside0.mk hN
  clear h
  go_enter Try.func9, Try.ntmps9
  go_wp2
  go_region_held3 (fun w' => w'.cell? ⟨w.heap.size, 0, none⟩ = some (.int .i64 c.kp) ∧ w'.cell? ⟨w.heap.size, 1, none⟩ = some (.int .i64 c.ki) ∧ w'.cell? ⟨w.heap.size, 2, none⟩ = some (.int .i64 c.li) ∧ w'.cell? ⟨w.heap.size, 3, none⟩ = some (.int .i64 c.sf) ∧ w'.cell? ⟨w.heap.size, 4, none⟩ = some (.int .i64 c.sl))
    (first | go_keep | (exact cs5 (by assumption)))
    (first
    | (go_at_call 13
       refine Calls.mono (hN.out _) ?_
       rintro e w1 ⟨rfl, L1⟩
       have R1 : w1.heap[w.heap.size]? = some (.cells #[.int .i64 c.kp, .int .i64 c.ki, .int .i64 c.li, .int .i64 c.sf, .int .i64 c.sl] 23) := blk_below (by exact R0) L1
       replace L1 := below_on L0 L1 rfl rfl rfl rfl
       clear R0 L0)
    | (go_at_call 13
       refine Calls.mono (hN.out _) ?_
       rintro e w2 ⟨rfl, L2⟩
       have R2 : w2.heap[w.heap.size]? = some (.cells #[.int .i64 c.kp, .int .i64 c.ki, .int .i64 c.li, .int .i64 c.sf, .int .i64 c.sl] 23) := blk_below (by exact R1) L2
       replace L2 := below_on L1 L2 rfl rfl rfl rfl))
  all_goals
    clear c0 c1 c2 c3 c4
    obtain ⟨c0, c1, c2, c3, c4⟩ := cs5 R2
    go_wp2_with (first
      | (go_at_call 11
         with_reducible refine Calls.mono (hC.out _) ?_
         rintro e w3 ⟨rfl, L3⟩
         replace L3 := L2.trans (L3.mono L2.size))
      | (go_at_call 14
         with_reducible refine Calls.mono (awake_any _) ?_
         rintro e w4 ⟨rfl, L4⟩
         replace L4 := L3.trans (L4.mono L3.size)))
  all_goals (go_ret; exact ⟨rfl, L4⟩)
theorem ServoAgain_walk (kp ki li sf sl : Int) (A : Option Addr) (len cap : Nat) (l : List (Int × Int × Int)) (A' : Option Addr) (len' cap' : Nat) (l' : List (Int × Int × Int)) (w : World) (w0 : (Lit.int .i64 kp).wf = true) (w1 : (Lit.int .i64 ki).wf = true) (w2 : (Lit.int .i64 li).wf = true) (w3 : (Lit.int .i64 sf).wf = true) (w4 : (Lit.int .i64 sl).wf = true) (hl : Deeds w A len cap l) (hl' : Deeds w A' len' cap' l') :
    Calls Try.prog 9 #[.agg #[.int .i64 kp, .int .i64 ki, .int .i64 li, .int .i64 sf, .int .i64 sl], .slice A len cap, .slice A' len' cap'] w fun e w' => e = .returned (.bool true) ∧ Below w.heap.size w w' := by
  by_cases h : okC kp ki li sf sl
  · exact ServoAgain_valid ⟨kp, ki, li, sf, sl⟩ A len cap l A' len' cap' l' w hl hl' h
  · exact ServoAgain_invalid ⟨kp, ki, li, sf, sl⟩ A len cap _ w h
end Go.Proofs.Ytimcdiombljajaa.Sv
