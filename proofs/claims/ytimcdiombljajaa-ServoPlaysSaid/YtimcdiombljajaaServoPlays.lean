/- ServoPlays: walked. -/
import Derived.Test.YtimcdiombljajaaSrT
namespace Go.Proofs.Ytimcdiombljajaa.Sv
open Go Go.RowKit Go.Proofs.YtimcdiombljajaaW.PrintWords Go.Proofs.YtimcdiombljajaaW.PrintLast Go.Proofs.YtimcdiombljajaaW.PrintMore Go.Proofs.Ytimcdiombljajaa.PAll Go.Proofs.Ytimcdiombljajaa.PureDiv
attribute [local go_sem] max2_int min2_int max_two min_two max_three min_three max_four min_four
set_option linter.unusedVariables false
set_option linter.unusedSimpArgs false

set_option maxRecDepth 8000 in
set_option maxHeartbeats 4000000 in
theorem ServoPlays_valid (c : Conf) (A : Option Addr) (len cap : Nat) (l : List (Int × Int × Int)) (w : World) (hl : Deeds w A len cap l) (h : okC c.kp c.ki c.li c.sf c.sl) :
    Calls Try.prog 7 #[.agg #[.int .i64 c.kp, .int .i64 c.ki, .int .i64 c.li, .int .i64 c.sf, .int .i64 c.sl], .slice A len cap] w fun e w' => e = .returned (.bool true) ∧ Below w.heap.size w w' := by
  have R0 : (w.alloc (confObj c)).heap[w.heap.size]? = some (.cells #[.int .i64 c.kp, .int .i64 c.ki, .int .i64 c.li, .int .i64 c.sf, .int .i64 c.sl] 23 (0, 0)) := blk_new w _
  have L0 : Below w.heap.size w (w.alloc (confObj c)) := (Below.refl _ _).alloc (Nat.le_refl _) _
  unfold confObj at R0 L0
  obtain ⟨c0, c1, c2, c3, c4⟩ := cs5 R0
  have hN := fun W => new_ok c.kp c.ki c.li c.sf c.sl W h
  replace hN := Aside0.mk hN
  have hM := fun W => rnew_ok c W h
  replace hM := Aside0.mk hM
  replace hl := Aside0.mk hl
  replace h := Aside0.mk h
  go_enter Try.func7, Try.ntmps7
  go_wp2
  go_region_held3 (fun w' => w'.cell? ⟨w.heap.size, 0, none⟩ = some (.int .i64 c.kp) ∧ w'.cell? ⟨w.heap.size, 1, none⟩ = some (.int .i64 c.ki) ∧ w'.cell? ⟨w.heap.size, 2, none⟩ = some (.int .i64 c.li) ∧ w'.cell? ⟨w.heap.size, 3, none⟩ = some (.int .i64 c.sf) ∧ w'.cell? ⟨w.heap.size, 4, none⟩ = some (.int .i64 c.sl))
    (first | go_keep | (exact cs5 (by assumption)))
    (first
    | (go_at_call 13
       with_reducible refine Calls.mono (hN.out _) ?_
       rintro e w1 ⟨g1, hg1, rfl, B1, L1⟩
       have R1 : w1.heap[w.heap.size]? = some (.cells #[.int .i64 c.kp, .int .i64 c.ki, .int .i64 c.li, .int .i64 c.sf, .int .i64 c.sl] 23) := blk_below (by exact R0) L1
       replace L1 := below_on L0 L1 rfl rfl rfl rfl
       clear R0 L0)
    | (go_at_call 19
       with_reducible refine Calls.mono (hM.out _) ?_
       rintro e w2 ⟨g2, hg2, rfl, B2, L2⟩
       have R2 : w2.heap[w.heap.size]? = some (.cells #[.int .i64 c.kp, .int .i64 c.ki, .int .i64 c.li, .int .i64 c.sf, .int .i64 c.sl] 23) := blk_below (by exact R1) L2
       have B3 : w2.heap[g1]? = some (svo c ⟨0, 0, 0⟩) := blk_below (by exact B1) L2
       replace L2 := below_on L1 L2 rfl rfl rfl rfl))
  have hs1 := L1.size
  have hs2 := L2.size
  have k1 : w.heap.size ≤ g1 := by simp at hg1; omega
  have k2 : w.heap.size ≤ g2 := by omega
  have hlt1 := blk_lt B1
  have hne : g1 ≠ g2 := by omega
  clear c0 c1 c2 c3 c4 R1 R2 B1 L1 hg1 hg2 hN hM hs1 hs2 hlt1
  go_wp2_with (first
    | (go_at_call 16
       refine Calls.mono (first_any hl.out _) ?_
       rintro e w4 ⟨rfl, rfl⟩))
  have hlt4 := blk_lt B3
  go_loopw [25] (fun i wr => ∃ (k : Nat) (s : St), k ≤ min len 200 ∧ i = .int .i64 k ∧ wr.heap[g1]? = some (svo c s) ∧ wr.heap[g2]? = some (rvo c s) ∧ Below w.heap.size w wr) (fun i _ => min len 200 - (intOf i).toNat)
  · exact ⟨0, ⟨0, 0, 0⟩, by omega, rfl, B3, B2, L2⟩
  · obtain ⟨k, s, hk, rfl, hB1, hB2, hL⟩ := hrel
    clear B3 B2 L2 hlt4
    by_cases hlt : k < min len 200
    · have hd := (hl.out.below hL).first
      obtain ⟨a, rfl⟩ : ∃ a, A = some a := by
        cases A with
        | none => have := hl.out.nil rfl; omega
        | some a => exact ⟨a, rfl⟩
      have hkl : k < (l.take 200).length := by rw [hd.cnt]; exact hlt
      obtain ⟨d0, d1, d2⟩ := hd.cell a rfl k _ (List.getElem?_eq_getElem hkl)
      generalize (l.take 200)[k] = p at *
      obtain ⟨pk, po, ps⟩ := p
      dsimp only at d0 d1 d2
      have hkk : (k : Int) < ((min len 200 : Nat) : Int) := by omega
      clear hd
      have hlt1 := blk_lt hB1
      have hlt2 := blk_lt hB2
      have A0 : (wr.alloc (.cells #[.int .i64 pk, .int .i64 po, .int .i64 ps] 38)).heap[wr.heap.size]? = some (.cells #[.int .i64 pk, .int .i64 po, .int .i64 ps] 38 (0, 0)) := blk_new wr _
      have hB1 := blk_alloc hB1 (.cells #[.int .i64 pk, .int .i64 po, .int .i64 ps] 38)
      have hB2 := blk_alloc hB2 (.cells #[.int .i64 pk, .int .i64 po, .int .i64 ps] 38)
      have hL := hL.alloc hL.size (.cells #[.int .i64 pk, .int .i64 po, .int .i64 ps] 38)
      obtain ⟨q0, q1, q2⟩ := cs3 A0
      have hg1 : g1 ≠ wr.heap.size := by omega
      have hg2 : g2 ≠ wr.heap.size := by omega
      by_cases hp : pk = 0
      · subst hp
        rcases hx : act c s po ps with ⟨ka, va, ea⟩
        rcases hn : nxt c s po ps with ⟨I', n', la'⟩
        have hS1 := Aside0.mk (fun W hb => sample_to g1 c _ _ _ _ _ _ _ W hb hx hn)
        have hS2 := Aside0.mk (fun W hb => rsample_to g2 c _ _ _ _ _ _ _ W hb h.out hx hn)
        clear hx hn
        go_wp2_with (first
          | (go_at_call 15
             with_reducible refine Calls.mono (hS1.out _ hB1) ?_
             rintro e w4 ⟨rfl, hC1, U1⟩
             have hC2 := blk_alloc (U1.blk hB2 (Ne.symm hne)) (.cells #[.int .i64 ka, .int .i64 va] 31)
             have A1 := blk_alloc (U1.blk A0 (by omega)) (.cells #[.int .i64 ka, .int .i64 va] 31)
             have A2 := blk_new w4 (.cells #[.int .i64 ka, .int .i64 va] 31)
             have hL1 := (Upd.below (B := w.heap.size) (w0 := w) hL U1 k1 hL.size)
             replace hL1 := hL1.alloc hL1.size (.cells #[.int .i64 ka, .int .i64 va] 31)
             replace hC1 := blk_alloc hC1 (.cells #[.int .i64 ka, .int .i64 va] 31)
             have hz := U1.size
             simp at hz
             obtain ⟨q3, q4, q5⟩ := cs3 A1)
          | (go_at_call 20
             with_reducible refine Calls.mono (hS2.out _ hC2) ?_
             rintro e w5 ⟨rfl, hD2, U2⟩
             have hF1 := blk_alloc (U2.blk hC1 hne) (.cells #[.int .i64 ka, .int .i64 va] 31)
             have A3 := blk_alloc (U2.blk A2 (by omega)) (.cells #[.int .i64 ka, .int .i64 va] 31)
             have A4 := blk_new w5 (.cells #[.int .i64 ka, .int .i64 va] 31)
             have A5 := blk_alloc (U2.blk A1 (by omega)) (.cells #[.int .i64 ka, .int .i64 va] 31)
             have hF2 := blk_alloc hD2 (.cells #[.int .i64 ka, .int .i64 va] 31)
             have hL2 := (Upd.below (B := w.heap.size) (w0 := w) hL1 U2 k2 hL1.size)
             replace hL2 := hL2.alloc hL2.size (.cells #[.int .i64 ka, .int .i64 va] 31)
             obtain ⟨r0, r1⟩ := cs2 A3
             obtain ⟨t0, t1⟩ := cs2 A4
             obtain ⟨u0, u1, u2⟩ := cs3 A5)
          | (go_at_call 18
             with_reducible refine Calls.mono (freq_svo g1 c I' n' la' _ hF1) ?_
             rintro e w6 ⟨rfl, rfl⟩)
          | (go_at_call 23
             with_reducible refine Calls.mono (rfreq_svo g2 c I' n' la' _ hF2) ?_
             rintro e w6 ⟨rfl, rfl⟩)
          | (go_at_call 24
             with_reducible refine Calls.mono (samples_svo g1 c I' n' la' _ hF1) ?_
             rintro e w6 ⟨rfl, rfl⟩)
          | (go_at_call 25
             with_reducible refine Calls.mono (rsamples_svo g2 c I' n' la' _ hF2) ?_
             rintro e w6 ⟨rfl, rfl⟩))
        all_goals
          go_roundw
          case rel => exact ⟨k + 1, ⟨I', n', la'⟩, by omega, by go_num, hF1, hF2, hL2⟩
          case measure => simp [intOf]; omega
      · have hpk : (pk == 0) = false := by simpa using hp
        obtain ⟨I', n', la'⟩ := s
        by_cases hp1 : pk = 1
        · subst hp1
          go_wp2_with (first
            | (go_at_call 21
               with_reducible refine Calls.mono (reset_svo g1 c I' n' la' _ hB1) ?_
               rintro e w4 ⟨rfl, hC1, U1⟩
               have hC2 := U1.blk hB2 (Ne.symm hne)
               have A1 := U1.blk A0 (by omega)
               have hL1 := (Upd.below (B := w.heap.size) (w0 := w) hL U1 k1 hL.size)
               obtain ⟨q3, q4, q5⟩ := cs3 A1)
            | (go_at_call 22
               with_reducible refine Calls.mono (rreset_svo g2 c I' n' la' _ hC2) ?_
               rintro e w5 ⟨rfl, hF2, U2⟩
               have hF1 := U2.blk hC1 hne
               have hL2 := (Upd.below (B := w.heap.size) (w0 := w) hL1 U2 k2 hL1.size))
            | (go_at_call 18
               with_reducible refine Calls.mono (freq_svo g1 c 0 0 la' _ hF1) ?_
               rintro e w6 ⟨rfl, rfl⟩)
            | (go_at_call 23
               with_reducible refine Calls.mono (rfreq_svo g2 c 0 0 la' _ hF2) ?_
               rintro e w6 ⟨rfl, rfl⟩)
            | (go_at_call 24
               with_reducible refine Calls.mono (samples_svo g1 c 0 0 la' _ hF1) ?_
               rintro e w6 ⟨rfl, rfl⟩)
            | (go_at_call 25
               with_reducible refine Calls.mono (rsamples_svo g2 c 0 0 la' _ hF2) ?_
               rintro e w6 ⟨rfl, rfl⟩))
          all_goals
            go_roundw
            case rel => exact ⟨k + 1, ⟨0, 0, la'⟩, by omega, by go_num, hF1, hF2, hL2⟩
            case measure => simp [intOf]; omega
        · have hpk1 : (pk == 1) = false := by simpa using hp1
          go_wp2_with (first
            | (go_at_call 18
               with_reducible refine Calls.mono (freq_svo g1 c I' n' la' _ hB1) ?_
               rintro e w6 ⟨rfl, rfl⟩)
            | (go_at_call 23
               with_reducible refine Calls.mono (rfreq_svo g2 c I' n' la' _ hB2) ?_
               rintro e w6 ⟨rfl, rfl⟩)
            | (go_at_call 24
               with_reducible refine Calls.mono (samples_svo g1 c I' n' la' _ hB1) ?_
               rintro e w6 ⟨rfl, rfl⟩)
            | (go_at_call 25
               with_reducible refine Calls.mono (rsamples_svo g2 c I' n' la' _ hB2) ?_
               rintro e w6 ⟨rfl, rfl⟩))
          all_goals
            go_roundw
            case rel => exact ⟨k + 1, ⟨I', n', la'⟩, by omega, by go_num, hB1, hB2, hL⟩
            case measure => simp [intOf]; omega
    · have hkk : ¬ ((k : Int) < ((min len 200 : Nat) : Int)) := by omega
      go_wp2_with (first
        | (go_at_call 14
           with_reducible refine Calls.mono (awake_any _) ?_
           rintro e w6 ⟨rfl, L6⟩
           replace L6 := hL.trans (L6.mono hL.size)))
      all_goals (go_ret; exact ⟨rfl, L6⟩)

set_option maxRecDepth 8000 in
set_option maxHeartbeats 4000000 in
theorem ServoPlays_invalid (c : Conf) (A : Option Addr) (len cap : Nat) (l : List (Int × Int × Int)) (w : World) (hl : Deeds w A len cap l) (h : ¬ okC c.kp c.ki c.li c.sf c.sl) :
    Calls Try.prog 7 #[.agg #[.int .i64 c.kp, .int .i64 c.ki, .int .i64 c.li, .int .i64 c.sf, .int .i64 c.sl], .slice A len cap] w fun e w' => e = .returned (.bool true) ∧ Below w.heap.size w w' := by
  have R0 : (w.alloc (confObj c)).heap[w.heap.size]? = some (.cells #[.int .i64 c.kp, .int .i64 c.ki, .int .i64 c.li, .int .i64 c.sf, .int .i64 c.sl] 23 (0, 0)) := blk_new w _
  have L0 : Below w.heap.size w (w.alloc (confObj c)) := (Below.refl _ _).alloc (Nat.le_refl _) _
  unfold confObj at R0 L0
  obtain ⟨c0, c1, c2, c3, c4⟩ := cs5 R0
  have hN := fun W => new_no c.kp c.ki c.li c.sf c.sl W h
  replace hN := Aside0.mk hN
  have hM := fun W => rnew_no c W h
  replace hM := Aside0.mk hM
  replace hl := Aside0.mk hl
  clear h
  go_enter Try.func7, Try.ntmps7
  go_wp2
  go_region_held3 (fun w' => w'.cell? ⟨w.heap.size, 0, none⟩ = some (.int .i64 c.kp) ∧ w'.cell? ⟨w.heap.size, 1, none⟩ = some (.int .i64 c.ki) ∧ w'.cell? ⟨w.heap.size, 2, none⟩ = some (.int .i64 c.li) ∧ w'.cell? ⟨w.heap.size, 3, none⟩ = some (.int .i64 c.sf) ∧ w'.cell? ⟨w.heap.size, 4, none⟩ = some (.int .i64 c.sl))
    (first | go_keep | (exact cs5 (by assumption)))
    (first
    | (go_at_call 13
       with_reducible refine Calls.mono (hN.out _) ?_
       rintro e w1 ⟨rfl, L1⟩
       have R1 : w1.heap[w.heap.size]? = some (.cells #[.int .i64 c.kp, .int .i64 c.ki, .int .i64 c.li, .int .i64 c.sf, .int .i64 c.sl] 23) := blk_below (by exact R0) L1
       replace L1 := below_on L0 L1 rfl rfl rfl rfl
       clear R0 L0)
    | (go_at_call 19
       with_reducible refine Calls.mono (hM.out _) ?_
       rintro e w2 ⟨rfl, L2⟩
       have R2 : w2.heap[w.heap.size]? = some (.cells #[.int .i64 c.kp, .int .i64 c.ki, .int .i64 c.li, .int .i64 c.sf, .int .i64 c.sl] 23) := blk_below (by exact R1) L2
       replace L2 := below_on L1 L2 rfl rfl rfl rfl))
  clear c0 c1 c2 c3 c4 R1 R2 L1 hN hM
  go_wp2_with (first
    | (go_at_call 16
       refine Calls.mono (first_any hl.out _) ?_
       rintro e w4 ⟨rfl, rfl⟩))
  go_loopw [25] (fun i wr => ∃ (k : Nat), k ≤ min len 200 ∧ i = .int .i64 k ∧ Below w.heap.size w wr) (fun i _ => min len 200 - (intOf i).toNat)
  · exact ⟨0, by omega, rfl, L2⟩
  · obtain ⟨k, hk, rfl, hL⟩ := hrel
    clear L2
    by_cases hlt : k < min len 200
    · have hd := (hl.out.below hL).first
      obtain ⟨a, rfl⟩ : ∃ a, A = some a := by
        cases A with
        | none => have := hl.out.nil rfl; omega
        | some a => exact ⟨a, rfl⟩
      have hkl : k < (l.take 200).length := by rw [hd.cnt]; exact hlt
      obtain ⟨d0, d1, d2⟩ := hd.cell a rfl k _ (List.getElem?_eq_getElem hkl)
      generalize (l.take 200)[k] = p at *
      obtain ⟨pk, po, ps⟩ := p
      dsimp only at d0 d1 d2
      have hkk : (k : Int) < ((min len 200 : Nat) : Int) := by omega
      clear hd
      have A0 : (wr.alloc (.cells #[.int .i64 pk, .int .i64 po, .int .i64 ps] 38)).heap[wr.heap.size]? = some (.cells #[.int .i64 pk, .int .i64 po, .int .i64 ps] 38 (0, 0)) := blk_new wr _
      have hL := hL.alloc hL.size (.cells #[.int .i64 pk, .int .i64 po, .int .i64 ps] 38)
      obtain ⟨q0, q1, q2⟩ := cs3 A0
      by_cases hp : pk = 0
      · subst hp
        go_wp2_with (first
          | (go_at_call 15
             with_reducible refine Calls.mono (nil_sample _ _ _) ?_
             rintro e w4 ⟨rfl, L3⟩
             have A1 := blk_alloc (blk_below A0 L3) (.cells #[.int .i64 0, .int .i64 0] 31)
             have A2 := blk_new w4 (.cells #[.int .i64 0, .int .i64 0] 31)
             have hL1 := hL.trans (L3.mono hL.size)
             replace hL1 := hL1.alloc hL1.size (.cells #[.int .i64 0, .int .i64 0] 31)
             obtain ⟨q3, q4, q5⟩ := cs3 A1)
          | (go_at_call 20
             with_reducible refine Calls.mono (rnil_sample _ _ _) ?_
             rintro e w5 ⟨rfl, L4⟩
             have A3 := blk_alloc (blk_below A2 L4) (.cells #[.int .i64 0, .int .i64 0] 31)
             have A4 := blk_new w5 (.cells #[.int .i64 0, .int .i64 0] 31)
             have A5 := blk_alloc (blk_below A1 L4) (.cells #[.int .i64 0, .int .i64 0] 31)
             have hL2 := hL1.trans (L4.mono hL1.size)
             replace hL2 := hL2.alloc hL2.size (.cells #[.int .i64 0, .int .i64 0] 31)
             obtain ⟨r0, r1⟩ := cs2 A3
             obtain ⟨t0, t1⟩ := cs2 A4
             obtain ⟨u0, u1, u2⟩ := cs3 A5)
          | (go_at_call 18
             with_reducible refine Calls.mono (nil_freq _) ?_
             rintro e w6 ⟨rfl, rfl⟩)
          | (go_at_call 23
             with_reducible refine Calls.mono (rnil_freq _) ?_
             rintro e w6 ⟨rfl, rfl⟩)
          | (go_at_call 24
             with_reducible refine Calls.mono (nil_samples _) ?_
             rintro e w6 ⟨rfl, rfl⟩)
          | (go_at_call 25
             with_reducible refine Calls.mono (rnil_samples _) ?_
             rintro e w6 ⟨rfl, rfl⟩))
        all_goals
          go_roundw
          case rel => exact ⟨k + 1, by omega, by go_num, hL2⟩
          case measure => simp [intOf]; omega
      · have hpk : (pk == 0) = false := by simpa using hp
        by_cases hp1 : pk = 1
        · subst hp1
          go_wp2_with (first
            | (go_at_call 21
               with_reducible refine Calls.mono (nil_reset _) ?_
               rintro e w4 ⟨rfl, rfl⟩)
            | (go_at_call 22
               with_reducible refine Calls.mono (rnil_reset _) ?_
               rintro e w4 ⟨rfl, rfl⟩)
            | (go_at_call 18
               with_reducible refine Calls.mono (nil_freq _) ?_
               rintro e w6 ⟨rfl, rfl⟩)
            | (go_at_call 23
               with_reducible refine Calls.mono (rnil_freq _) ?_
               rintro e w6 ⟨rfl, rfl⟩)
            | (go_at_call 24
               with_reducible refine Calls.mono (nil_samples _) ?_
               rintro e w6 ⟨rfl, rfl⟩)
            | (go_at_call 25
               with_reducible refine Calls.mono (rnil_samples _) ?_
               rintro e w6 ⟨rfl, rfl⟩))
          all_goals
            go_roundw
            case rel => exact ⟨k + 1, by omega, by go_num, hL⟩
            case measure => simp [intOf]; omega
        · have hpk1 : (pk == 1) = false := by simpa using hp1
          go_wp2_with (first
            | (go_at_call 18
               with_reducible refine Calls.mono (nil_freq _) ?_
               rintro e w6 ⟨rfl, rfl⟩)
            | (go_at_call 23
               with_reducible refine Calls.mono (rnil_freq _) ?_
               rintro e w6 ⟨rfl, rfl⟩)
            | (go_at_call 24
               with_reducible refine Calls.mono (nil_samples _) ?_
               rintro e w6 ⟨rfl, rfl⟩)
            | (go_at_call 25
               with_reducible refine Calls.mono (rnil_samples _) ?_
               rintro e w6 ⟨rfl, rfl⟩))
          all_goals
            go_roundw
            case rel => exact ⟨k + 1, by omega, by go_num, hL⟩
            case measure => simp [intOf]; omega
    · have hkk : ¬ ((k : Int) < ((min len 200 : Nat) : Int)) := by omega
      go_wp2_with (first
        | (go_at_call 14
           with_reducible refine Calls.mono (awake_any _) ?_
           rintro e w6 ⟨rfl, L6⟩
           replace L6 := hL.trans (L6.mono hL.size)))
      all_goals (go_ret; exact ⟨rfl, L6⟩)

theorem ServoPlays_walk (kp ki li sf sl : Int) (A : Option Addr) (len cap : Nat) (l : List (Int × Int × Int)) (w : World) (w0 : (Lit.int .i64 kp).wf = true) (w1 : (Lit.int .i64 ki).wf = true) (w2 : (Lit.int .i64 li).wf = true) (w3 : (Lit.int .i64 sf).wf = true) (w4 : (Lit.int .i64 sl).wf = true) (hl : Deeds w A len cap l) :
    Calls Try.prog 7 #[.agg #[.int .i64 kp, .int .i64 ki, .int .i64 li, .int .i64 sf, .int .i64 sl], .slice A len cap] w fun e w' => e = .returned (.bool true) ∧ Below w.heap.size w w' := by
  by_cases h : okC kp ki li sf sl
  · exact ServoPlays_valid ⟨kp, ki, li, sf, sl⟩ A len cap l w hl h
  · exact ServoPlays_invalid ⟨kp, ki, li, sf, sl⟩ A len cap l w hl h
end Go.Proofs.Ytimcdiombljajaa.Sv
