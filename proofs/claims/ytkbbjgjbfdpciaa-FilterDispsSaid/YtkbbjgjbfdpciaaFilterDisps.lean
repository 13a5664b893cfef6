/- FilterDisps: walked. -/
import Derived.Test.YtkbbjgjbfdpciaaFw
namespace Go.Proofs.Ytkbbjgjbfdpciaa.Fi
open Go Go.RowKit Go.Proofs.YtkbbjgjbfdpciaaW.PrintWords Go.Proofs.YtkbbjgjbfdpciaaW.PrintLast Go.Proofs.YtkbbjgjbfdpciaaW.PrintMore Go.Proofs.Ytkbbjgjbfdpciaa.PAll Go.Proofs.Ytkbbjgjbfdpciaa.Pure
attribute [local go_sem] max2_int min2_int max_two min_two max_three min_three max_four min_four
set_option linter.unusedVariables false
set_option linter.unusedSimpArgs false

def dx (disp : Int) (i : Nat) : S29 := ⟨0, (i : Int) + 1, disp, (i : Int) + 1⟩
def dl (disp : Int) (k : Nat) : List S29 := (List.range k).map (dx disp)
theorem dl_len (disp : Int) (k : Nat) : (dl disp k).length = k := by simp [dl]
theorem dl_succ (disp : Int) (k : Nat) : dl disp (k + 1) = dl disp k ++ [dx disp k] := by simp [dl, List.range_succ]
theorem dl_get (disp : Int) (k i : Nat) (h : i < k) : (dl disp k)[i]? = some (dx disp i) := by simp [dl, h]
theorem dl_last (disp : Int) (k : Nat) : (dl disp (k + 1)).getLast? = some (dx disp k) := by rw [dl_succ]; simp
theorem dl_ok (disp : Int) (k : Nat) (h0 : 0 ≤ disp) (h1 : disp ≤ 9007199254740992) (hk : k < 8) : okS (dx disp k) := by
  unfold okS dx
  dsimp only
  omega
theorem dl_fits (disp : Int) (k : Nat) : fits (dl disp k) (dx disp k) = true := by
  cases k with
  | zero => rfl
  | succ k =>
    unfold fits
    rw [dl_last]
    apply decide_eq_true
    unfold dx
    dsimp only
    omega
theorem dl_addE (disp : Int) (k : Nat) (h0 : 0 ≤ disp) (h1 : disp ≤ 9007199254740992) (hk : k < 8) : addE (dl disp k) (dx disp k) = 0 := by
  unfold addE
  rw [if_pos (dl_ok disp k h0 h1 hk), dl_fits, if_pos rfl]
theorem dl_addL (disp : Int) (k : Nat) (h0 : 0 ≤ disp) (h1 : disp ≤ 9007199254740992) (hk : k < 8) : addL (dl disp k) (dx disp k) = dl disp (k + 1) := by
  unfold addL
  rw [if_pos (dl_ok disp k h0 h1 hk), dl_fits, if_pos rfl]
  unfold push
  rw [dl_len, if_neg (by omega), dl_succ]
theorem dl_grow (disp : Int) (k i : Nat) (h0 : 0 ≤ disp) (h1 : disp ≤ 9007199254740992) (hk : k ≤ 8) (hi : i < k) :
    growS (dx disp i).f0 (dx disp i).f1 (dx disp i).f2 (dx disp i).f3 k 0 = (0, (i : Int) + 1, disp, (k : Int), 0) := by
  unfold growS dx keep more
  dsimp only
  have hf : fine 0 ((i : Int) + 1) disp ((i : Int) + 1) ∧ inr (k : Int) ∧ tolr 0 := by unfold fine inr tolr; omega
  rw [if_pos hf, if_neg (by omega), Int.mul_zero]
  simp only [Int.zero_ediv, Int.neg_zero, Int.add_zero]
  rw [if_pos (by unfold fine inr; omega)]
theorem dl_dT (disp : Int) (N k : Nat) (h0 : 0 ≤ disp) (h1 : disp ≤ 9007199254740992) (hN : N ≤ 8) : dT 0 (N : Int) (sortS (dl disp N)) k = if k < N then disp else 16000000000 := by
  unfold dT
  rw [sort_len, dl_len]
  by_cases h : k < N
  · rw [if_pos h, if_pos h]
    have hm := sort_getD (dl disp N) k (by rw [dl_len]; exact h)
    unfold dl at hm
    rw [List.mem_map] at hm
    obtain ⟨i, hi, he⟩ := hm
    have hi' : i < N := List.mem_range.1 hi
    unfold dl
    rw [← he, dl_grow disp N i h0 h1 hN hi']
    rfl
  · rw [if_neg h, if_neg h]

set_option maxRecDepth 8000 in
set_option maxHeartbeats 4000000 in
theorem FilterDisps_valid (disp : Int) (N : Nat) (w : World) (h0 : 0 ≤ disp) (h1 : disp ≤ 9007199254740992) (hN1 : 1 ≤ N) (hN8 : N ≤ 8) :
    Calls Try.prog 6 #[.int .i64 disp, .int .i64 (N : Int)] w fun e w' => e = .returned (.bool true) ∧ Below w.heap.size w w' := by
  have hN := Aside0.mk (fun W => new_ok 0 W (by decide) (by decide))
  have q1 : ¬ disp < 0 := by omega
  have q2 : ¬ 9007199254740992 < disp := by omega
  have q3 : ¬ (N : Int) < 1 := by omega
  have q4 : ¬ (8 : Int) < (N : Int) := by omega
  have q5 : ¬ N < 1 := by omega
  have q6 : ¬ 8 < N := by omega
  go_enter Try.func6, Try.ntmps6
  go_wp2_with (first
    | (go_at_call 8
       with_reducible refine Calls.mono (hN.out _) ?_
       rintro e w1 ⟨rfl, F1, B1⟩)
    | (go_at_call 18
       with_reducible refine Calls.mono (disp_empty _ _ _ _ _ F1) ?_
       rintro e w2 ⟨rfl, rfl⟩))
  have q7 := blk_lt (F1.choose_spec.1)
  go_loopw [6] (fun i wr => ∃ k : Nat, k ≤ N ∧ i = .int .i64 ((k : Int) + 1) ∧ Fil wr w.heap.size 0 (dl disp k) (-9223372036854775808) ∧ Below w.heap.size w wr) (fun i _ => N + 1 - (intOf i).toNat)
  · exact ⟨0, by omega, rfl, F1, B1⟩
  · obtain ⟨k, hk, rfl, hF, hL⟩ := hrel
    clear F1 B1 q7
    by_cases hlt : k < N
    · have hkk : (k : Int) + 1 ≤ (N : Int) := by omega
      have hA := add_to w.heap.size 0 (dl disp k) (dl disp (k + 1)) (-9223372036854775808) (dx disp k) 0 (dl_addE disp k h0 h1 (by omega)) (dl_addL disp k h0 h1 (by omega)) wr hF
      unfold dx at hA
      replace hA := Aside0.mk hA
      have hw : IntKind.i64.wrap ((k : Int) + 1 + 1) = (k : Int) + 1 + 1 := by have := wrapk (k + 2) (by omega); push_cast at this; rw [show (k : Int) + 1 + 1 = (k : Int) + 2 by omega]; exact this
      go_wp2_with (first
        | (go_at_call 11
           with_reducible refine Calls.mono hA.out ?_
           rintro e w2 ⟨rfl, F2, U2⟩
           have B2 := U2.below hL (Nat.le_refl _) hL.size))
      all_goals
        go_roundw
        case rel => exact ⟨k + 1, by omega, by push_cast; rfl, F2, B2⟩
        case measure => simp [intOf]; omega
    · have hkN : k = N := by omega
      subst hkN
      have hkk : ¬ (k : Int) + 1 ≤ (k : Int) := by omega
      have hT := dl_dT disp k
      replace hT := Aside0.mk (fun j => dl_dT disp k j h0 h1 hN8)
      replace hF := Aside0.mk hF
      replace hL := Aside0.mk hL
      go_wp2
      go_loopw [7, 8] (fun s i wx => ∃ j : Nat, j ≤ 8 ∧ i = .int .i64 ((j : Int) + 1) ∧ s = .int .i64 (dS 0 (k : Int) (sortS (dl disp k)) j) ∧ wx = wr) (fun _ i _ => 9 - (intOf i).toNat)
      · exact ⟨0, by omega, rfl, rfl, rfl⟩
      · obtain ⟨j, hj, rfl, rfl, rfl⟩ := hrel
        by_cases hj8 : j < 8
        · have hjj : (j : Int) + 1 ≤ 8 := by omega
          have hw : IntKind.i64.wrap ((j : Int) + 1 + 1) = (j : Int) + 1 + 1 := by have := wrapk (j + 2) (by omega); push_cast at this; rw [show (j : Int) + 1 + 1 = (j : Int) + 2 by omega]; exact this
          have hS' := dS_succ 0 (k : Int) (sortS (dl disp k)) j
          rw [hT.out j] at hS'
          by_cases hjk : j < k
          · have hjkI : (j : Int) + 1 ≤ (k : Int) := by omega
            rw [if_pos hjk] at hS'
            go_wp2
            all_goals
              go_roundw
              case rel => exact ⟨j + 1, by omega, by push_cast; rfl, by rw [hS'], by first | trivial | rfl⟩
              case measure => simp [intOf]; omega
          · have hjkI : ¬ (j : Int) + 1 ≤ (k : Int) := by omega
            rw [if_neg hjk] at hS'
            go_wp2
            all_goals
              go_roundw
              case rel => exact ⟨j + 1, by omega, by push_cast; rfl, by rw [hS'], by first | trivial | rfl⟩
              case measure => simp [intOf]; omega
        · have hj9 : j = 8 := by omega
          subst hj9
          have hD := disp_go w.heap.size 0 (dl disp k) (k - 1) (dx disp (k - 1)) (-9223372036854775808) (k : Int) _ hF.out (by rw [dl_len]; omega) (dl_get disp k (k - 1) (by omega)) (by unfold dx; dsimp only; omega)
          replace hD := Aside0.mk hD
          have hO := fun W h => disp_order w.heap.size 0 (dl disp k) (k - 1) (dx disp (k - 1)) (-9223372036854775808) ((k : Int) - 1) W h (by rw [dl_len]; omega) (dl_get disp k (k - 1) (by omega)) (by unfold dx; dsimp only; omega)
          replace hO := Aside0.mk hO
          have e5 : IntKind.i64.wrap ((k : Int) - 1) = (k : Int) - 1 := by simp [IntKind.wrap, IntKind.bits, IntKind.signed]; omega
          go_wp2_with (first
            | (go_at_call 18
               with_reducible refine Calls.mono hD.out ?_
               rintro e w3 ⟨rfl, b3⟩
               have F3 := hF.out.below b3
               have L3 := hL.out.trans (b3.mono hL.out.size))
            | (go_at_call 18
               with_reducible refine Calls.mono (hO.out _ F3) ?_
               rintro e w4 ⟨rfl, ⟨nd, rfl⟩⟩
               have L4 := pw_below_drewN L3 nd)
            | (go_at_call 9
               with_reducible refine Calls.mono (awake_any _) ?_
               rintro e w5 ⟨rfl, b5⟩
               have L5 := L4.trans (b5.mono L4.size)))
          all_goals (go_ret; exact ⟨rfl, L5⟩)

set_option maxRecDepth 8000 in
set_option maxHeartbeats 4000000 in
theorem FilterDisps_rest (disp n : Int) (w : World) (h : disp < 0 ∨ 9007199254740992 < disp ∨ n < 1 ∨ 8 < n) :
    Calls Try.prog 6 #[.int .i64 disp, .int .i64 n] w fun e w' => e = .returned (.bool true) ∧ Below w.heap.size w w' := by
  have hN := Aside0.mk (fun W => new_ok 0 W (by decide) (by decide))
  by_cases a : disp < 0
  · clear h
    go_enter Try.func6, Try.ntmps6
    go_wp2_with (first
      | (go_at_call 8
         with_reducible refine Calls.mono (hN.out _) ?_
         rintro e w1 ⟨rfl, F1, B1⟩)
      | (go_at_call 18
         with_reducible refine Calls.mono (disp_empty _ _ _ _ _ F1) ?_
         rintro e w2 ⟨rfl, rfl⟩)
      | (go_at_call 9
         with_reducible refine Calls.mono (awake_any _) ?_
         rintro e w5 ⟨rfl, b5⟩
         have L5 := B1.trans (b5.mono B1.size)))
    all_goals (go_ret; exact ⟨rfl, L5⟩)
  by_cases b : 9007199254740992 < disp
  · clear h
    go_enter Try.func6, Try.ntmps6
    go_wp2_with (first
      | (go_at_call 8
         with_reducible refine Calls.mono (hN.out _) ?_
         rintro e w1 ⟨rfl, F1, B1⟩)
      | (go_at_call 18
         with_reducible refine Calls.mono (disp_empty _ _ _ _ _ F1) ?_
         rintro e w2 ⟨rfl, rfl⟩)
      | (go_at_call 9
         with_reducible refine Calls.mono (awake_any _) ?_
         rintro e w5 ⟨rfl, b5⟩
         have L5 := B1.trans (b5.mono B1.size)))
    all_goals (go_ret; exact ⟨rfl, L5⟩)
  by_cases c : n < 1
  · clear h
    go_enter Try.func6, Try.ntmps6
    go_wp2_with (first
      | (go_at_call 8
         with_reducible refine Calls.mono (hN.out _) ?_
         rintro e w1 ⟨rfl, F1, B1⟩)
      | (go_at_call 18
         with_reducible refine Calls.mono (disp_empty _ _ _ _ _ F1) ?_
         rintro e w2 ⟨rfl, rfl⟩)
      | (go_at_call 9
         with_reducible refine Calls.mono (awake_any _) ?_
         rintro e w5 ⟨rfl, b5⟩
         have L5 := B1.trans (b5.mono B1.size)))
    all_goals (go_ret; exact ⟨rfl, L5⟩)
  have d : 8 < n := by omega
  clear h
  go_enter Try.func6, Try.ntmps6
  go_wp2_with (first
    | (go_at_call 8
       with_reducible refine Calls.mono (hN.out _) ?_
       rintro e w1 ⟨rfl, F1, B1⟩)
    | (go_at_call 18
       with_reducible refine Calls.mono (disp_empty _ _ _ _ _ F1) ?_
       rintro e w2 ⟨rfl, rfl⟩)
    | (go_at_call 9
       with_reducible refine Calls.mono (awake_any _) ?_
       rintro e w5 ⟨rfl, b5⟩
       have L5 := B1.trans (b5.mono B1.size)))
  all_goals (go_ret; exact ⟨rfl, L5⟩)
theorem FilterDisps_walk (disp n : Int) (w : World) (w0 : (Lit.int .i64 disp).wf = true) (w1 : (Lit.int .i64 n).wf = true) :
    Calls Try.prog 6 #[.int .i64 disp, .int .i64 n] w fun e w' => e = .returned (.bool true) ∧ Below w.heap.size w w' := by
  by_cases h : disp < 0 ∨ 9007199254740992 < disp ∨ n < 1 ∨ 8 < n
  · exact FilterDisps_rest disp n w h
  · obtain ⟨N, rfl⟩ : ∃ N : Nat, n = N := ⟨n.toNat, by omega⟩
    exact FilterDisps_valid disp N w (by omega) (by omega) (by omega) (by omega)
end Go.Proofs.Ytkbbjgjbfdpciaa.Fi
