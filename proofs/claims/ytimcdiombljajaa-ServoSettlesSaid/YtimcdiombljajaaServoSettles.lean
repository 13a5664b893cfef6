/- ServoSettles: walked; and why the clock comes home. -/
import Derived.Test.YtimcdiombljajaaServoChecks
namespace Go.Proofs.Ytimcdiombljajaa.Sv
open Go Go.RowKit Go.Proofs.YtimcdiombljajaaW.PrintWords Go.Proofs.YtimcdiombljajaaW.PrintLast Go.Proofs.YtimcdiombljajaaW.PrintMore Go.Proofs.Ytimcdiombljajaa.PAll Go.Proofs.Ytimcdiombljajaa.PureDiv
set_option linter.unusedVariables false
set_option linter.unusedSimpArgs false

def exC4 : Conf := ⟨32768, 0, 500000, 0, 0⟩
theorem w64_of {x : Int} (h0 : -9223372036854775808 ≤ x) (h1 : x < 9223372036854775808) : wrap64 x = x := by
  unfold wrap64; omega
theorem mnmx (x b : Int) (h0 : -b ≤ x) (h1 : x ≤ b) : mn (mx x (-b)) b = x := by
  have e1 : mx x (-b) = x := by
    unfold mx
    split <;> omega
  rw [e1]
  unfold mn
  split <;> omega
theorem ratio_second (x : Int) (h0 : -500000 ≤ x) (h1 : x ≤ 500000) : ratioS x 1000000000 = x := by
  unfold ratioS md
  have e : x * 1000000000 / 1000000000 = x := Int.mul_ediv_cancel x (by decide)
  rw [e]
  rw [if_pos (show -9223372036854775808 ≤ x ∧ x < 9223372036854775808 by omega)]
  exact mnmx x 1000000000 (by omega) (by omega)
theorem settle (s : St) (x : Int) (h0 : -500000 ≤ x) (h1 : x ≤ 500000) : act exC4 s x 1000000000 = (1, x / 2, 0) ∨ s.I ≠ 0 := by
  by_cases hI : s.I = 0
  · left
    have hin : inS x 1000000000 := by unfold inS; omega
    have hst : ¬ stepsS exC4.sf exC4.sl s.n x := by
      unfold stepsS thrS
      show ¬ ((0 : Int) < (if s.n = 0 then 0 else 0) ∧ _)
      split <;> omega
    unfold act
    rw [if_pos hin, if_neg hst, ratio_second x h0 h1, hI]
    have e1 : intS exC4.ki exC4.li 0 x = 0 := by
      show mn (mx (wrap64 (0 + wrap64 (0 * x) / 65536)) (wrap64 (-500000))) 500000 = 0
      rw [Int.zero_mul]
      decide +kernel
    rw [e1]
    have e2 : freqS exC4.kp exC4.li x 0 = x / 2 := by
      show mn (mx (wrap64 (wrap64 (32768 * x) / 65536 + 0)) (wrap64 (-500000))) 500000 = x / 2
      rw [w64_of (x := 32768 * x) (by omega) (by omega), w64_of (x := 32768 * x / 65536 + 0) (by omega) (by omega)]
      have e3 : 32768 * x / 65536 + 0 = x / 2 := by omega
      rw [e3, show wrap64 (-500000) = -500000 by decide +kernel]
      exact mnmx (x / 2) 500000 (by omega) (by omega)
    rw [e2]
  · exact .inr hI
theorem settle_I (s : St) (x : Int) (h0 : -500000 ≤ x) (h1 : x ≤ 500000) (hI : s.I = 0) : (nxt exC4 s x 1000000000).I = 0 := by
  have hin : inS x 1000000000 := by unfold inS; omega
  have hst : ¬ stepsS exC4.sf exC4.sl s.n x := by
    unfold stepsS thrS
    show ¬ ((0 : Int) < (if s.n = 0 then 0 else 0) ∧ _)
    split <;> omega
  unfold nxt
  rw [if_pos hin, if_neg hst, ratio_second x h0 h1, hI]
  show mn (mx (wrap64 (0 + wrap64 (0 * x) / 65536)) (wrap64 (-500000))) 500000 = 0
  rw [Int.zero_mul]
  decide +kernel
/-- how far off the clock is at most, round for round -/
def far : Nat → Int
  | 0 => 500000
  | k + 1 => (far k + 1) / 2
theorem far_le : ∀ k, 1 ≤ far k ∧ far k ≤ 500000
  | 0 => by decide
  | k + 1 => by have := far_le k; unfold far; omega
theorem far_home : far 20 = 1 := by decide

theorem tmod_bd (x : Int) : -500000 ≤ x.tmod 500001 ∧ x.tmod 500001 ≤ 500000 := by
  have h0 := Int.lt_tmod_of_pos x (b := 500001) (by decide)
  have h1 := Int.tmod_lt_of_pos x (b := 500001) (by decide)
  omega

set_option maxHeartbeats 2000000 in
theorem ServoSettles_walk (a0 : Int) (w : World) (w0 : (Lit.int .i32 a0).wf = true) :
    Calls Try.prog 4 #[.int .i32 a0] w fun e w' => e = .returned (.bool true) ∧ Below w.heap.size w w' := by
  have hN := Aside0.mk (fun W => new_ok 32768 0 500000 0 0 W (by decide))
  go_enter Try.func4, Try.ntmps4
  go_wp2_with (first
    | (go_at_call 13
       with_reducible refine Calls.mono (hN.out _) ?_
       rintro e w1 ⟨g, hg, rfl, B1, L1⟩))
  have ht := tmod_bd (wrap64 a0)
  generalize (wrap64 a0).tmod 500001 = x0 at *
  have hS := Aside0.mk (fun (s : St) (x : Int) (W : World) (hb : W.heap[g]? = some (svo exC4 s)) (h0 : -500000 ≤ x) (h1 : x ≤ 500000) (hI : s.I = 0) =>
    sample_to g exC4 s _ 1 (x / 2) 0 x 1000000000 W hb ((settle s x h0 h1).resolve_right (fun h => h hI)) rfl)
  go_loopw [4, 14] (fun x i wr => ∃ (k : Nat) (xv : Int) (s : St), k ≤ 20 ∧ i = .int .i64 k ∧ x = .int .i64 xv ∧ -(far k) ≤ xv ∧ xv ≤ far k ∧ s.I = 0 ∧ wr.heap[g]? = some (svo exC4 s) ∧ Below w.heap.size w wr) (fun _ i _ => 20 - (intOf i).toNat)
  · exact ⟨0, x0, ⟨0, 0, 0⟩, by omega, rfl, rfl, ht.1, ht.2, rfl, B1, L1⟩
  · obtain ⟨k, xv, s, hk, rfl, rfl, hx0, hx1, hI, hB, hL⟩ := hrel
    have hf := far_le k
    have hx2 : -500000 ≤ xv := by omega
    have hx3 : xv ≤ 500000 := by omega
    have e1 : ¬ (xv / 2 < -500000) := by omega
    have e2 : ¬ (500000 < xv / 2) := by omega
    have e3 : wrap64 (xv - xv / 2) = xv - xv / 2 := w64_of (by omega) (by omega)
    have hS := Aside0.mk (hS.out s xv wr hB hx2 hx3 hI)
    have HX := Aside0.mk (And.intro hx0 hx1)
    have HF := Aside0.mk hf
    clear hx0 hx1 hx2 hx3 hf
    by_cases hlt : k < 20
    · have hk' : (k : Int) < 20 := by omega
      go_wp2_with (first
        | (go_at_call 15
           refine Calls.mono hS.out ?_
           rintro e w2 ⟨rfl, B2, U2⟩
           have A2 := blk_new w2 (.cells #[.int .i64 1, .int .i64 (xv / 2)] 31)
           have B3 := blk_alloc B2 (.cells #[.int .i64 1, .int .i64 (xv / 2)] 31)
           have L2 := Upd.below (B := w.heap.size) (w0 := w) hL U2 hg hL.size
           have L3 := L2.alloc L2.size (.cells #[.int .i64 1, .int .i64 (xv / 2)] 31)
           obtain ⟨p0, p1⟩ := cs2 A2))
      all_goals
        go_roundw
        case rel =>
          have hx := HX.out
          have hf := HF.out
          have hff : far (k + 1) = (far k + 1) / 2 := rfl
          exact ⟨k + 1, xv - xv / 2, _, by omega, by go_num, rfl, by omega, by omega, settle_I s xv (by omega) (by omega) hI, B3, L3⟩
        case measure => simp [intOf]; omega
    · have hk20 : k = 20 := by omega
      subst hk20
      have hx := HX.out
      rw [far_home] at hx
      have g1 : ¬ (xv < -1) := by omega
      have g2 : ¬ (1 < xv) := by omega
      have g3 : -1 ≤ xv := by omega
      have g4 : xv ≤ 1 := by omega
      clear HX HF hx hS
      go_wp2_with (first
        | (go_at_call 14; refine Calls.mono (awake_any _) ?_; rintro e w5 ⟨rfl, L5⟩; replace L5 := hL.trans (L5.mono hL.size)))
      all_goals (go_ret; exact ⟨rfl, L5⟩)
end Go.Proofs.Ytimcdiombljajaa.Sv
