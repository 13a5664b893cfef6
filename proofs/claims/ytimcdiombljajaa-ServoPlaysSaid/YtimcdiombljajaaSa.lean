/- The examples of the chapter: walked. -/
import Derived.Test.YtimcdiombljajaaSx
import Derived.BigFrame
namespace Go.Proofs.Ytimcdiombljajaa.Sv
open Go Go.RowKit Go.Proofs.YtimcdiombljajaaW.PrintWords Go.Proofs.YtimcdiombljajaaW.PrintLast Go.Proofs.YtimcdiombljajaaW.PrintMore Go.Proofs.Ytimcdiombljajaa.PAll Go.Proofs.Ytimcdiombljajaa.PureDiv
set_option linter.unusedVariables false
set_option linter.unusedSimpArgs false

theorem sample_to (b : Nat) (c : Conf) (s s' : St) (k v er off span : Int) (w : World) (hb : w.heap[b]? = some (svo c s)) (h1 : act c s off span = (k, v, er)) (h2 : nxt c s off span = s') :
    Calls Try.prog 15 #[.pointer (some ⟨b, 0, none⟩), .int .i64 off, .int .i64 span] w fun e w' =>
      e = .returned (.tuple #[.agg #[.int .i64 k, .int .i64 v], .int .i64 er]) ∧ w'.heap[b]? = some (svo c s') ∧ Upd w w' b := by
  have h := sample_any b c s off span w hb
  rw [h1, h2] at h
  exact h

deriving instance DecidableEq for St
def exC1 : Conf := ⟨65536, 32768, 1000, 0, 0⟩
def exC2 : Conf := ⟨0, 0, 1, 1000, 0⟩
def exC3 : Conf := ⟨65536, 0, 500000, 0, 0⟩
theorem ex1 : act exC1 ⟨0, 0, 0⟩ 100 1000000000 = (1, 150, 0) ∧ nxt exC1 ⟨0, 0, 0⟩ 100 1000000000 = ⟨50, 1, 150⟩ := by decide +kernel
theorem ex2 : act exC1 ⟨50, 1, 150⟩ 100 1000000000 = (1, 200, 0) ∧ nxt exC1 ⟨50, 1, 150⟩ 100 1000000000 = ⟨100, 2, 200⟩ := by decide +kernel
theorem ex3 : act exC2 ⟨0, 0, 0⟩ (-1001) 1 = (2, -1001, 0) ∧ nxt exC2 ⟨0, 0, 0⟩ (-1001) 1 = ⟨0, 1, 0⟩ := by decide +kernel
theorem ex4 : act exC2 ⟨0, 1, 0⟩ (-1001) 1 = (1, 0, 0) ∧ nxt exC2 ⟨0, 1, 0⟩ (-1001) 1 = ⟨0, 2, 0⟩ := by decide +kernel
theorem ex5 : act exC3 ⟨0, 0, 0⟩ 1 3 = (1, 500000, 0) ∧ nxt exC3 ⟨0, 0, 0⟩ 1 3 = ⟨0, 1, 500000⟩ := by decide +kernel

set_option maxHeartbeats 4000000 in
theorem awake_any (w : World) : Calls Try.prog 14 #[] w fun e w' => e = .returned (.bool true) ∧ Below w.heap.size w w' := by
  have hN1 := fun W => new_some 65536 32768 1000 0 0 W (by decide +kernel)
  have hN2 := fun W => new_some 0 0 1 1000 0 W (by decide +kernel)
  have hN3 := fun W => new_some 65536 0 500000 0 0 W (by decide +kernel)
  have hS1 := fun b W hb => sample_to b exC1 _ _ _ _ _ _ _ W hb ex1.1 ex1.2
  have hS2 := fun b W hb => sample_to b exC1 _ _ _ _ _ _ _ W hb ex2.1 ex2.2
  have hS3 := fun b W hb => sample_to b exC2 _ _ _ _ _ _ _ W hb ex3.1 ex3.2
  have hS4 := fun b W hb => sample_to b exC2 _ _ _ _ _ _ _ W hb ex4.1 ex4.2
  have hS5 := fun b W hb => sample_to b exC3 _ _ _ _ _ _ _ W hb ex5.1 ex5.2
  have hN1 := Aside0.mk hN1
  have hN2 := Aside0.mk hN2
  have hN3 := Aside0.mk hN3
  have hS1 := Aside0.mk hS1
  have hS2 := Aside0.mk hS2
  have hS3 := Aside0.mk hS3
  have hS4 := Aside0.mk hS4
  have hS5 := Aside0.mk hS5
  go_enter Try.func14, Try.ntmps14
  go_wp2_with (first
    | (go_at_call 13
       with_reducible refine Calls.mono (hN1.out _) ?_
       rintro e w1 ⟨g1, hg1, rfl, B1_0, L1⟩
       have hlt1 := blk_lt B1_0
       replace B1_0 : w1.heap[g1]? = some (svo exC1 ⟨0, 0, 0⟩) := B1_0)
    | (go_at_call 13
       with_reducible refine Calls.mono (hN2.out _) ?_
       rintro e w2 ⟨g2, hg2, rfl, B2_0, L2⟩
       have hlt2 := blk_lt B2_0
       have n12 : g1 ≠ g2 := by omega
       replace B1_0 := blk_below B1_0 L2
       replace B2_0 : w2.heap[g2]? = some (svo exC2 ⟨0, 0, 0⟩) := B2_0
       replace L2 := L1.trans (L2.mono L1.size))
    | (go_at_call 13
       with_reducible refine Calls.mono (hN3.out _) ?_
       rintro e w3 ⟨g3, hg3, rfl, B3_0, L3⟩
       have hlt3 := blk_lt B3_0
       have n13 : g1 ≠ g3 := by omega
       have n23 : g2 ≠ g3 := by omega
       replace B1_0 := blk_below B1_0 L3
       replace B2_0 := blk_below B2_0 L3
       replace B3_0 : w3.heap[g3]? = some (svo exC3 ⟨0, 0, 0⟩) := B3_0
       replace L3 := L2.trans (L3.mono L2.size)
       have hs : w.heap.size ≤ w3.heap.size := L3.size
       have k1 : w.heap.size ≤ g1 := by omega
       have k2 : w.heap.size ≤ g2 := by have := L1.size; omega
       have k3 : w.heap.size ≤ g3 := by have := L2.size; omega)
    | (go_at_call 15
       with_reducible refine Calls.mono (hS1.out g1 _ B1_0) ?_
       rintro e w4 ⟨rfl, B1_1, U1⟩
       have L4 := Upd.below (B := w.heap.size) (w0 := w) L3 U1 k1 L3.size
       have B2_1 := U1.blk B2_0 (Ne.symm n12)
       have B3_1 := U1.blk B3_0 (Ne.symm n13)
       have hz1 : w3.heap.size ≤ w4.heap.size := by have := U1.size; (try simp at this); omega
       have A1_0 := blk_new w4 (.cells #[.int .i64 1, .int .i64 150] 31)
       replace B1_1 := blk_alloc B1_1 (.cells #[.int .i64 1, .int .i64 150] 31)
       replace B2_1 := blk_alloc B2_1 (.cells #[.int .i64 1, .int .i64 150] 31)
       replace B3_1 := blk_alloc B3_1 (.cells #[.int .i64 1, .int .i64 150] 31)
       replace L4 := L4.alloc L4.size (.cells #[.int .i64 1, .int .i64 150] 31))
    | (go_at_call 15
       with_reducible refine Calls.mono (hS2.out g1 _ B1_1) ?_
       rintro e w5 ⟨rfl, B1_2, U2⟩
       have L5 := Upd.below (B := w.heap.size) (w0 := w) L4 U2 k1 L4.size
       have B2_2 := U2.blk B2_1 (Ne.symm n12)
       have B3_2 := U2.blk B3_1 (Ne.symm n13)
       have A1_1 := U2.blk A1_0 (by omega)
       have hz2 : w4.heap.size ≤ w5.heap.size := by have := U2.size; (try simp at this); omega
       have A2_1 := blk_new w5 (.cells #[.int .i64 1, .int .i64 200] 31)
       replace A1_1 := blk_alloc A1_1 (.cells #[.int .i64 1, .int .i64 200] 31)
       replace B1_2 := blk_alloc B1_2 (.cells #[.int .i64 1, .int .i64 200] 31)
       replace B2_2 := blk_alloc B2_2 (.cells #[.int .i64 1, .int .i64 200] 31)
       replace B3_2 := blk_alloc B3_2 (.cells #[.int .i64 1, .int .i64 200] 31)
       replace L5 := L5.alloc L5.size (.cells #[.int .i64 1, .int .i64 200] 31))
    | (go_at_call 15
       with_reducible refine Calls.mono (hS3.out g2 _ B2_2) ?_
       rintro e w6 ⟨rfl, B2_3, U3⟩
       have L6 := Upd.below (B := w.heap.size) (w0 := w) L5 U3 k2 L5.size
       have B1_3 := U3.blk B1_2 n12
       have B3_3 := U3.blk B3_2 (Ne.symm n23)
       have A1_2 := U3.blk A1_1 (by omega)
       have A2_2 := U3.blk A2_1 (by omega)
       have hz3 : w5.heap.size ≤ w6.heap.size := by have := U3.size; (try simp at this); omega
       have A3_2 := blk_new w6 (.cells #[.int .i64 2, .int .i64 (-1001)] 31)
       replace A1_2 := blk_alloc A1_2 (.cells #[.int .i64 2, .int .i64 (-1001)] 31)
       replace A2_2 := blk_alloc A2_2 (.cells #[.int .i64 2, .int .i64 (-1001)] 31)
       replace B1_3 := blk_alloc B1_3 (.cells #[.int .i64 2, .int .i64 (-1001)] 31)
       replace B2_3 := blk_alloc B2_3 (.cells #[.int .i64 2, .int .i64 (-1001)] 31)
       replace B3_3 := blk_alloc B3_3 (.cells #[.int .i64 2, .int .i64 (-1001)] 31)
       replace L6 := L6.alloc L6.size (.cells #[.int .i64 2, .int .i64 (-1001)] 31))
    | (go_at_call 15
       with_reducible refine Calls.mono (hS4.out g2 _ B2_3) ?_
       rintro e w7 ⟨rfl, B2_4, U4⟩
       have L7 := Upd.below (B := w.heap.size) (w0 := w) L6 U4 k2 L6.size
       have B1_4 := U4.blk B1_3 n12
       have B3_4 := U4.blk B3_3 (Ne.symm n23)
       have A1_3 := U4.blk A1_2 (by omega)
       have A2_3 := U4.blk A2_2 (by omega)
       have A3_3 := U4.blk A3_2 (by omega)
       have hz4 : w6.heap.size ≤ w7.heap.size := by have := U4.size; (try simp at this); omega
       have A4_3 := blk_new w7 (.cells #[.int .i64 1, .int .i64 0] 31)
       replace A1_3 := blk_alloc A1_3 (.cells #[.int .i64 1, .int .i64 0] 31)
       replace A2_3 := blk_alloc A2_3 (.cells #[.int .i64 1, .int .i64 0] 31)
       replace A3_3 := blk_alloc A3_3 (.cells #[.int .i64 1, .int .i64 0] 31)
       replace B1_4 := blk_alloc B1_4 (.cells #[.int .i64 1, .int .i64 0] 31)
       replace B2_4 := blk_alloc B2_4 (.cells #[.int .i64 1, .int .i64 0] 31)
       replace B3_4 := blk_alloc B3_4 (.cells #[.int .i64 1, .int .i64 0] 31)
       replace L7 := L7.alloc L7.size (.cells #[.int .i64 1, .int .i64 0] 31))
    | (go_at_call 15
       with_reducible refine Calls.mono (hS5.out g3 _ B3_4) ?_
       rintro e w8 ⟨rfl, B3_5, U5⟩
       have L8 := Upd.below (B := w.heap.size) (w0 := w) L7 U5 k3 L7.size
       have B1_5 := U5.blk B1_4 n13
       have B2_5 := U5.blk B2_4 n23
       have A1_4 := U5.blk A1_3 (by omega)
       have A2_4 := U5.blk A2_3 (by omega)
       have A3_4 := U5.blk A3_3 (by omega)
       have A4_4 := U5.blk A4_3 (by omega)
       have hz5 : w7.heap.size ≤ w8.heap.size := by have := U5.size; (try simp at this); omega
       have A5_4 := blk_new w8 (.cells #[.int .i64 1, .int .i64 500000] 31)
       replace A1_4 := blk_alloc A1_4 (.cells #[.int .i64 1, .int .i64 500000] 31)
       replace A2_4 := blk_alloc A2_4 (.cells #[.int .i64 1, .int .i64 500000] 31)
       replace A3_4 := blk_alloc A3_4 (.cells #[.int .i64 1, .int .i64 500000] 31)
       replace A4_4 := blk_alloc A4_4 (.cells #[.int .i64 1, .int .i64 500000] 31)
       replace B1_5 := blk_alloc B1_5 (.cells #[.int .i64 1, .int .i64 500000] 31)
       replace B2_5 := blk_alloc B2_5 (.cells #[.int .i64 1, .int .i64 500000] 31)
       replace B3_5 := blk_alloc B3_5 (.cells #[.int .i64 1, .int .i64 500000] 31)
       replace L8 := L8.alloc L8.size (.cells #[.int .i64 1, .int .i64 500000] 31)
       obtain ⟨p0, q0⟩ := cs2 A1_4
       obtain ⟨p1, q1⟩ := cs2 A2_4
       obtain ⟨p2, q2⟩ := cs2 A3_4
       obtain ⟨p3, q3⟩ := cs2 A4_4
       obtain ⟨p4, q4⟩ := cs2 A5_4))
  all_goals (go_ret; exact ⟨rfl, L8⟩)

end Go.Proofs.Ytimcdiombljajaa.Sv
