/- The filter's Jitter, Disp, Spike. -/
import Derived.Test.YtkbbjgjbfdpciaaFm
import Derived.Test.YtkbbjgjbfdpciaaFq
namespace Go.Proofs.Ytkbbjgjbfdpciaa.Fi
open Go Go.RowKit Go.Proofs.YtkbbjgjbfdpciaaW.PrintWords Go.Proofs.YtkbbjgjbfdpciaaW.PrintLast Go.Proofs.YtkbbjgjbfdpciaaW.PrintMore Go.Proofs.Ytkbbjgjbfdpciaa.PAll Go.Proofs.Ytkbbjgjbfdpciaa.Pure
attribute [local go_sem] max2_int min2_int max_two min_two max_three min_three max_four min_four
set_option linter.unusedVariables false
set_option linter.unusedSimpArgs false

theorem SRow.drewN {w : World} {g : Nat} {l : List S29} (h : SRow w g l) (n : Nat) : SRow (w.drewN n) g l := ⟨h.lt, h.cell, h.frz⟩
/-- how far two offsets are apart, at most 2^30 -/
def apart (a b : Int) : Int := mn (mx (wrap64 (a - b)) (wrap64 (b - a))) 1073741824
/-- the sum over the first k of the sorted stages -/
def jS (o : Int) (ls : List S29) : Nat → Int
  | 0 => 0
  | k + 1 => wrap64 (jS o ls k + wrap64 (apart (ls.getD k z29).f0 o * apart (ls.getD k z29).f0 o))

set_option maxHeartbeats 1000000 in
theorem jitter_few (b : Nat) (tol : Int) (l : List S29) (fresh : Int) (w : World) (h : Fil w b tol l fresh) (h2 : l.length < 2) :
    Calls Try.prog 17 #[.pointer (some ⟨b, 0, none⟩)] w fun e w' => e = .returned (.int .i64 0) ∧ w = w' := by
  obtain ⟨c0, c1, c2⟩ := h.cells
  have e1 : (l.length : Int) < 2 := by omega
  go_enter Try.func17, Try.ntmps17
  go_wp2
  all_goals (go_ret; exact ⟨rfl, rfl⟩)

set_option maxRecDepth 8000 in
set_option maxHeartbeats 4000000 in
theorem jitter_many (b : Nat) (tol : Int) (l : List S29) (fresh : Int) (x : S29) (r : Int) (w : World) (h : Fil w b tol l fresh) (h2 : 2 ≤ l.length) (hx : (sortS l)[0]? = some x)
    (hs0 : 0 ≤ jS x.f0 (sortS l) l.length) (hr : fixed_Sqrt.f 33 (wrap64 (jS x.f0 (sortS l) l.length / ((l.length : Int) - 1))) = some (r, true)) :
    Calls Try.prog 17 #[.pointer (some ⟨b, 0, none⟩)] w fun e w' => e = .returned (.int .i64 r) ∧ Below w.heap.size w w' := by
  have h8 := h.len
  obtain ⟨c0, c1, c2⟩ := h.cells
  have e1 : ¬ (l.length : Int) < 2 := by omega
  have e2 : ¬ l.length < 2 := by omega
  have hO := ordered_any b tol l fresh w h
  replace hO := Aside0.mk hO
  replace h := Aside0.mk h
  have hq := fun W => fixed_Sqrt.calls 33 _ r true W hr
  replace hq := Aside0.mk hq
  clear hr
  go_enter Try.func17, Try.ntmps17
  go_wp2_with (first
    | (go_at_call 23
       with_reducible refine Calls.mono hO.out ?_
       rintro e w1 ⟨g, cap, rfl, hg, hcap, hS, hlen, hb⟩
       have hlt1 := hS.lt
       replace hS := Aside0.mk hS
       replace hb := Aside0.mk hb))
  obtain ⟨x0, x1, x2, x3⟩ := (hS.out).get hx
  rw [Nat.zero_mul] at x0 x1 x2 x3
  clear x1 x2 x3
  have hl0 : 0 < l.length := by omega
  go_loopw [4, 23] (fun s i wr => ∃ k : Nat, k ≤ l.length ∧ i = .int .i64 k ∧ s = .int .i64 (jS x.f0 (sortS l) k) ∧ SRow wr g (sortS l) ∧ Below w1.heap.size w1 wr) (fun _ i _ => l.length - (intOf i).toNat)
  · exact ⟨0, by omega, rfl, rfl, hS.out, Below.refl _ _⟩
  · obtain ⟨k, hk, rfl, rfl, hR, hL⟩ := hrel
    clear x0
    by_cases hlt : k < l.length
    · have hkl : k < (sortS l).length := by rw [hlen]; exact hlt
      have hp : (sortS l)[k]? = some ((sortS l).getD k z29) := by
        rw [List.getD_eq_getElem?_getD, List.getElem?_eq_getElem hkl]; rfl
      have hkk : (k : Int) < (l.length : Int) := by omega
      have hk0 : (0 : Int) ≤ (k : Int) := by omega
      have hkN : decide (k < l.length) = true := decide_eq_true hlt
      obtain ⟨s0, s1, s2, s3⟩ := hR.get hp
      have hj : jS x.f0 (sortS l) (k + 1) = wrap64 (jS x.f0 (sortS l) k + wrap64 (apart ((sortS l).getD k z29).f0 x.f0 * apart ((sortS l).getD k z29).f0 x.f0)) := rfl
      generalize (sortS l).getD k z29 = p at *
      have A0 := blk_new wr (.cells #[.int .i64 p.f0, .int .i64 p.f1, .int .i64 p.f2, .int .i64 p.f3] 29)
      have hL' := hL.alloc hL.size (.cells #[.int .i64 p.f0, .int .i64 p.f1, .int .i64 p.f2, .int .i64 p.f3] 29)
      have hR' : SRow (wr.alloc (.cells #[.int .i64 p.f0, .int .i64 p.f1, .int .i64 p.f2, .int .i64 p.f3] 29)) g (sortS l) := hR.below ((Below.refl _ _).alloc (Nat.le_refl _) _) hR.lt
      obtain ⟨x0, x1, x2, x3⟩ := hR'.get hx
      rw [Nat.zero_mul] at x0
      clear x1 x2 x3
      obtain ⟨q0, q1, q2, q3⟩ := cs4 A0
      replace hR' := Aside0.mk hR'
      replace hL' := Aside0.mk hL'
      go_wp2
      go_quiet (fail)
      go_wp2
      have hR2 : SRow ((wr.alloc (.cells #[.int .i64 p.f0, .int .i64 p.f1, .int .i64 p.f2, .int .i64 p.f3] 29)).drewN nq) g (sortS l) := hR'.out.drewN nq
      have hL2 := pw_below_drewN hL'.out nq
      go_roundw
      case rel => exact ⟨k + 1, by omega, by go_num, by rw [hj]; rfl, hR2, hL2⟩
      case measure => simp [intOf]; omega
    · have hkk : ¬ (k : Int) < (l.length : Int) := by omega
      have hkN : decide (k < l.length) = false := decide_eq_false hlt
      have hkl : k = l.length := by omega
      have hkN2 : ¬ k < l.length := hlt
      obtain ⟨c0, c1, c2⟩ := ((h.out.below hb.out).below hL).cells
      have hb2 := hb.out.trans (hL.mono hb.out.size)
      replace hb2 := Aside0.mk hb2
      have e5 : IntKind.i64.wrap ((l.length : Int) - 1) = (l.length : Int) - 1 := by simp [IntKind.wrap, IntKind.bits, IntKind.signed]; omega
      have e6 : ((l.length : Int) - 1 == 0) = false := beq_false_of_ne (by omega)
      have e7 : ¬ (l.length : Int) - 1 = 0 := by omega
      subst hkl
      generalize hsum : jS x.f0 (sortS l) l.length = s at *
      have e8 : (s.tdiv ((l.length : Int) - 1)) = s / ((l.length : Int) - 1) := Num.tdiv_pos hs0
      clear hkk hkN hkN2 hlt
      go_wp2_with (first
        | (go_at_call 27
           with_reducible refine Calls.mono (hq.out _) ?_
           rintro e w4 ⟨rfl, ⟨nd, rfl⟩⟩
           have hb3 := pw_below_drewN hb2.out nd))
      all_goals (go_ret; exact ⟨rfl, hb3⟩)
end Go.Proofs.Ytkbbjgjbfdpciaa.Fi
