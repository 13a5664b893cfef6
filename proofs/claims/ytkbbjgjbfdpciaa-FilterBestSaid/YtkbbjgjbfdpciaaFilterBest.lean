/- FilterBest: walked. -/
import Derived.Test.YtkbbjgjbfdpciaaFy
namespace Go.Proofs.Ytkbbjgjbfdpciaa.Fi
open Go Go.RowKit Go.Proofs.YtkbbjgjbfdpciaaW.PrintWords Go.Proofs.YtkbbjgjbfdpciaaW.PrintLast Go.Proofs.YtkbbjgjbfdpciaaW.PrintMore Go.Proofs.Ytkbbjgjbfdpciaa.PAll Go.Proofs.Ytkbbjgjbfdpciaa.Pure
attribute [local go_sem] max2_int min2_int max_two min_two max_three min_three max_four min_four
set_option linter.unusedVariables false
set_option linter.unusedSimpArgs false

set_option maxRecDepth 8000 in
set_option maxHeartbeats 8000000 in
theorem FilterBest_go (tol : Int) (A : Option Addr) (len cap : Nat) (l : List (Int × Int × Int × Int)) (now : Int) (w : World) (hl : Rk.Row w A len cap l) (h0 : 0 ≤ tol) (h1 : tol ≤ 500000) (h40 : len ≤ 40) :
    Calls Try.prog 4 #[.int .i64 tol, .slice A len cap, .int .i64 now] w fun e w' => e = .returned (.bool true) ∧ Below w.heap.size w w' := by
  have hN := Aside0.mk (fun W => new_ok tol W h0 h1)
  have q1 : ¬ (40 : Int) < (len : Int) := by omega
  have q2 : ¬ 40 < len := by omega
  replace hl := Aside0.mk hl
  go_enter Try.func4, Try.ntmps4
  go_wp2_with (first
    | (go_at_call 8
       with_reducible refine Calls.mono (hN.out _) ?_
       rintro e w1 ⟨rfl, F1, B1⟩))
  have q7 := F1.lt
  go_loopw [8] (fun i wr => ∃ (k : Nat) (s : List S29), k ≤ len ∧ i = .int .i64 k ∧ Stg s ∧ Fil wr w.heap.size tol s (-9223372036854775808) ∧ Below w.heap.size w wr) (fun i _ => len - (intOf i).toNat)
  · exact ⟨0, [], by omega, rfl, Stg.nil, F1, B1⟩
  · obtain ⟨k, s, hk, rfl, hG, hF, hL⟩ := hrel
    clear F1 B1 q7
    by_cases hlt : k < len
    · have hd := hl.out.below hL (fun a ha hl0 => hl.out.low a ha hl0)
      obtain ⟨a, rfl⟩ : ∃ a, A = some a := by
        cases A with
        | none => have := hl.out.nil rfl; omega
        | some a => exact ⟨a, rfl⟩
      have hkl : k < l.length := by rw [hd.cnt]; exact hlt
      obtain ⟨d0, d1, d2, d3⟩ := hd.cell a rfl k _ (List.getElem?_eq_getElem hkl)
      generalize l[k] = p at *
      have hkk : (k : Int) < (len : Int) := by omega
      have hk0 : (0 : Int) ≤ (k : Int) := by omega
      have hA := add_any w.heap.size tol s (-9223372036854775808) (smp p) wr hF
      unfold smp at hA
      replace hA := Aside0.mk hA
      have hG2 := Aside0.mk (hG.add (smp p))
      clear hd
      go_wp2_with (first
        | (go_at_call 11
           with_reducible refine Calls.mono hA.out ?_
           rintro e w2 ⟨rfl, F2, U2⟩
           have B2 := U2.below hL (Nat.le_refl _) hL.size))
      all_goals
        go_roundw
        case rel => exact ⟨k + 1, _, by omega, by push_cast; rfl, hG2.out, F2, B2⟩
        case measure => simp [intOf]; omega
    · have hkk : ¬ (k : Int) < (len : Int) := by omega
      have hkN : ¬ k < len := hlt
      cases hs : s.getLast? with
      | none =>
        have hn : s = [] := List.getLast?_eq_none_iff.1 hs
        subst hn
        have hBE := Aside0.mk (fun W h => best_empty w.heap.size tol (-9223372036854775808) now W h)
        have hSm := Aside0.mk (fun W h => samples_any w.heap.size tol [] (-9223372036854775808) W h)
        go_wp2_with (first
          | (go_at_call 15
             with_reducible refine Calls.mono (hBE.out _ hF) ?_
             rintro e w2 ⟨rfl, b2⟩
             have F2 := (hF.below b2).alloc (.cells #[.int .i64 0, .int .i64 0, .int .i64 0, .int .i64 0] 29)
             have Z2 := blk_new w2 (.cells #[.int .i64 0, .int .i64 0, .int .i64 0, .int .i64 0] 29)
             have L2 := hL.trans (b2.mono hL.size)
             replace L2 := L2.alloc L2.size (.cells #[.int .i64 0, .int .i64 0, .int .i64 0, .int .i64 0] 29))
          | (go_at_call 12
             with_reducible refine Calls.mono (hSm.out _ F2) ?_
             rintro e w3 ⟨g, cp, rfl, hg, hcp, hS, b3⟩
             have Z3 := blk_below Z2 b3
             have L3 := L2.trans (b3.mono L2.size)
             obtain ⟨z0, z1, z2, z3⟩ := cs4 Z3)
          | (go_at_call 9
             with_reducible refine Calls.mono (awake_any _) ?_
             rintro e w5 ⟨rfl, b5⟩
             have L5 := L3.trans (b5.mono L3.size)))
        all_goals (go_ret; exact ⟨rfl, L5⟩)
      | some y =>
        obtain ⟨j, hj, hy⟩ := last_get hs
        have hslen : 0 < s.length := by omega
        have hsl0 : (s.length : Int) ≠ 0 := by omega
        have hsb : ((s.length : Int) == 0) = false := beq_false_of_ne hsl0
        have hsbN : (s.length == 0) = false := beq_false_of_ne (by omega)
        have hF8 := hF.len
        have ej0 : IntKind.i64.wrap ((s.length : Int) - 1) = (j : Int) := by
          have e : (s.length : Int) - 1 = (j : Int) := by omega
          rw [e]
          exact wrapk j (by omega)
        obtain ⟨r1, r2, r3, r4, v, e0, hBe, hres1, hres2⟩ : ∃ (r1 r2 r3 r4 : Int) (v : Bool) (e0 : Int),
            (∀ W, Fil W w.heap.size tol s (-9223372036854775808) → Calls Try.prog 15 #[.pointer (some ⟨w.heap.size, 0, none⟩), .int .i64 now] W fun e w' => e = .returned (.tuple #[.agg #[.int .i64 r1, .int .i64 r2, .int .i64 r3, .int .i64 r4], .bool v, .int .i64 e0]) ∧ (∃ fresh, Fil w' w.heap.size tol s fresh) ∧ Upd W w' w.heap.size) ∧
            (now < y.f3 → r1 = 0 ∧ r2 = 0 ∧ r3 = 0 ∧ r4 = 0 ∧ e0 = 12) ∧ (¬ now < y.f3 → ∀ x, (sortS s)[0]? = some x → growS x.f0 x.f1 x.f2 x.f3 now tol = (r1, r2, r3, r4, e0) ∧ v = (e0 == 0)) := by
          by_cases hno : now < y.f3
          · refine ⟨0, 0, 0, 0, false, 12, fun W hW => (best_order w.heap.size tol s j y (-9223372036854775808) now W hW hj hy hno).mono ?_, fun _ => ⟨rfl, rfl, rfl, rfl, rfl⟩, fun h => absurd hno h⟩
            rintro e w' ⟨rfl, hB⟩
            exact ⟨rfl, ⟨_, hW.below hB⟩, Upd.of_below hB⟩
          · have hx0 : 0 < (sortS s).length := by rw [sort_len]; exact hslen
            have hx : (sortS s)[0]? = some (sortS s)[0] := List.getElem?_eq_getElem hx0
            rcases hg : growS (sortS s)[0].f0 (sortS s)[0].f1 (sortS s)[0].f2 (sortS s)[0].f3 now tol with ⟨r1, r2, r3, r4, r5⟩
            refine ⟨r1, r2, r3, r4, (r5 == 0), r5, fun W hW => best_any w.heap.size tol s j y _ now r1 r2 r3 r4 r5 W hW hG hj hy (by omega) hx hg, fun h => absurd h hno, fun _ x hxx => ?_⟩
            rw [hx] at hxx
            rw [← Option.some.inj hxx]
            exact ⟨hg, rfl⟩
        replace hBe := Aside0.mk hBe
        replace hj := Aside0.mk hj
        replace hres1 := Aside0.mk hres1
        replace hres2 := Aside0.mk hres2
        have hSm := Aside0.mk (fun W fr h => samples_any w.heap.size tol s fr W h)
        go_wp2_with (first
          | (go_at_call 15
             with_reducible refine Calls.mono (hBe.out _ hF) ?_
             rintro e w2 ⟨rfl, ⟨fr, F2⟩, U2⟩
             have Z2 := blk_new w2 (.cells #[.int .i64 r1, .int .i64 r2, .int .i64 r3, .int .i64 r4] 29)
             have L2 := U2.below hL (Nat.le_refl _) hL.size
             have H2 := F2.alloc (.cells #[.int .i64 r1, .int .i64 r2, .int .i64 r3, .int .i64 r4] 29)
             replace L2 := L2.alloc L2.size (.cells #[.int .i64 r1, .int .i64 r2, .int .i64 r3, .int .i64 r4] 29))
          | (go_at_call 12
             with_reducible refine Calls.mono (hSm.out _ _ H2) ?_
             rintro e w3 ⟨g, cp, rfl, hg, hcp, hS, b3⟩
             have Z3 := blk_below Z2 b3
             have L3 := L2.trans (b3.mono L2.size)
             obtain ⟨z0, z1, z2, z3⟩ := cs4 Z3))
        replace hS := Aside0.mk hS
        replace Z3 := Aside0.mk Z3
        replace L3 := Aside0.mk L3
        replace hG := Aside0.mk hG
        clear hsl0 hL hF Z2 L2 H2 F2 U2 b3
        go_loopw [13, 14] (fun sb si wx => ∃ (i bi : Nat) (xb : S29), 1 ≤ i ∧ i ≤ s.length ∧ bi < i ∧ si = .int .i64 i ∧ sb = .int .i64 bi ∧ s[bi]? = some xb ∧ (∀ k z, k < bi → s[k]? = some z → xb.f1 ≤ z.f1) ∧ (∀ k z, bi < k → k < i → s[k]? = some z → xb.f1 < z.f1) ∧ SRow wx g s ∧ wx.heap[w2.heap.size]? = some (.cells #[.int .i64 r1, .int .i64 r2, .int .i64 r3, .int .i64 r4] 29) ∧ Below w.heap.size w wx) (fun _ si _ => s.length - (intOf si).toNat)
        · exact ⟨1, 0, _, Nat.le_refl _, hslen, by omega, rfl, rfl, List.getElem?_eq_getElem hslen, (fun k z h => by omega), (fun k z h1 h2 => by omega), hS.out, Z3.out, L3.out⟩
        · obtain ⟨i, bi, xb, hi1, hi, hbi, rfl, rfl, hxb, hle, hltt, hS', hZ, hL⟩ := hrel
          obtain ⟨b0, b1, b2, b3⟩ := hS'.get hxb
          have hb0 : (0 : Int) ≤ (bi : Int) := by omega
          have hbl : (bi : Int) < (s.length : Int) := by omega
          replace hZ := Aside0.mk hZ
          replace hL := Aside0.mk hL
          replace hle := Aside0.mk hle
          replace hltt := Aside0.mk hltt
          by_cases his : i < s.length
          · have hisI : (i : Int) < (s.length : Int) := by omega
            have hi0 : (0 : Int) ≤ (i : Int) := by omega
            have hz : s[i]? = some s[i] := List.getElem?_eq_getElem his
            generalize s[i] = z at *
            obtain ⟨c0, c1, c2, c3⟩ := hS'.get hz
            clear b0 b2 b3 c0 c2 c3
            replace hS' := Aside0.mk hS'
            go_wp2
            go_quiet (fail)
            by_cases hcmp : z.f1 ≤ xb.f1
            · have hcd : decide (z.f1 ≤ xb.f1) = true := decide_eq_true hcmp
              go_wp2
              all_goals
                go_roundw
                case rel => exact ⟨i + 1, i, z, by omega, by omega, by omega, by push_cast; rfl, rfl, hz, (fun k u hk hu => by
                    rcases Nat.lt_trichotomy k bi with h | h | h
                    · have := hle.out k u h hu; omega
                    · subst h; rw [hxb] at hu; rw [← Option.some.inj hu]; exact hcmp
                    · have := hltt.out k u h hk hu; omega), (fun k u h1 h2 => by omega), hS'.out.drewN nq, blk_drewN hZ.out nq, pw_below_drewN hL.out nq⟩
                case measure => simp [intOf]; omega
            · have hcd : decide (z.f1 ≤ xb.f1) = false := decide_eq_false hcmp
              go_wp2
              all_goals
                go_roundw
                case rel => exact ⟨i + 1, bi, xb, by omega, by omega, by omega, by push_cast; rfl, rfl, hxb, hle.out, (fun k u h1 h2 hu => by
                    by_cases hki : k = i
                    · subst hki; rw [hz] at hu; rw [← Option.some.inj hu]; omega
                    · exact hltt.out k u h1 (by omega) hu), hS'.out.drewN nq, blk_drewN hZ.out nq, pw_below_drewN hL.out nq⟩
                case measure => simp [intOf]; omega
          · have hisI : ¬ (i : Int) < (s.length : Int) := by omega
            have hfirst := first_of hG.out hxb hle.out (fun k u h1 hu => hltt.out k u h1 (by have := (List.getElem?_eq_some_iff.1 hu).1; omega) hu)
            obtain ⟨y0, y1, y2, y3⟩ := hS'.get hy
            have hj0 : (0 : Int) ≤ (j : Int) := by omega
            have hjl : (j : Int) < (s.length : Int) := by have := hj.out; omega
            replace hS' := Aside0.mk hS'
            by_cases hno : now < y.f3
            · obtain ⟨e1, e2, e3, e4, e5⟩ := hres1.out (by omega)
              subst e1 e2 e3 e4 e5
              have hnd : decide (now < y.f3) = true := decide_eq_true hno
              obtain ⟨z0, z1, z2, z3⟩ := cs4 hZ.out
              go_wp2_with (first
                | (go_at_call 9
                   with_reducible refine Calls.mono (awake_any _) ?_
                   rintro e w5 ⟨rfl, b5⟩
                   have L5 := hL.out.trans (b5.mono hL.out.size)))
              all_goals (go_ret; exact ⟨rfl, L5⟩)
            · obtain ⟨hgr, hv⟩ := hres2.out (by omega) _ hfirst
              have hnd : decide (now < y.f3) = false := decide_eq_false hno
              have hG16 := Aside0.mk (fun W => grow_to xb now tol r1 r2 r3 r4 e0 hgr W)
              clear hgr
              by_cases h5 : e0 = 0
              · subst h5
                have hv' : v = true := hv
                clear hv
                subst hv'
                obtain ⟨z0, z1, z2, z3⟩ := cs4 hZ.out
                go_wp2_with (first
                  | (go_at_call 16
                     with_reducible refine Calls.mono (hG16.out _) ?_
                     rintro e w4 ⟨rfl, b4⟩
                     have Z4 := blk_alloc (blk_below hZ.out b4) (.cells #[.int .i64 r1, .int .i64 r2, .int .i64 r3, .int .i64 r4] 29)
                     have N4 := blk_new w4 (.cells #[.int .i64 r1, .int .i64 r2, .int .i64 r3, .int .i64 r4] 29)
                     have L4 := hL.out.trans (b4.mono hL.out.size)
                     replace L4 := L4.alloc L4.size (.cells #[.int .i64 r1, .int .i64 r2, .int .i64 r3, .int .i64 r4] 29)
                     obtain ⟨g0, g1, g2, g3⟩ := cs4 Z4
                     obtain ⟨m0, m1, m2, m3⟩ := cs4 N4)
                  | (go_at_call 9
                     with_reducible refine Calls.mono (awake_any _) ?_
                     rintro e w5 ⟨rfl, b5⟩
                     have L5 := L4.trans (b5.mono L4.size)))
                all_goals (go_ret; exact ⟨rfl, L5⟩)
              · have h5' : (e0 == 0) = false := beq_false_of_ne h5
                rw [h5'] at hv
                subst hv
                clear h5
                obtain ⟨z0, z1, z2, z3⟩ := cs4 hZ.out
                go_wp2_with (first
                  | (go_at_call 16
                     with_reducible refine Calls.mono (hG16.out _) ?_
                     rintro e w4 ⟨rfl, b4⟩
                     have Z4 := blk_alloc (blk_below hZ.out b4) (.cells #[.int .i64 r1, .int .i64 r2, .int .i64 r3, .int .i64 r4] 29)
                     have N4 := blk_new w4 (.cells #[.int .i64 r1, .int .i64 r2, .int .i64 r3, .int .i64 r4] 29)
                     have L4 := hL.out.trans (b4.mono hL.out.size)
                     replace L4 := L4.alloc L4.size (.cells #[.int .i64 r1, .int .i64 r2, .int .i64 r3, .int .i64 r4] 29)
                     obtain ⟨g0, g1, g2, g3⟩ := cs4 Z4
                     obtain ⟨m0, m1, m2, m3⟩ := cs4 N4)
                  | (go_at_call 9
                     with_reducible refine Calls.mono (awake_any _) ?_
                     rintro e w5 ⟨rfl, b5⟩
                     have L5 := L4.trans (b5.mono L4.size)))
                all_goals (go_ret; exact ⟨rfl, L5⟩)

set_option maxHeartbeats 2000000 in
theorem FilterBest_rest (tol : Int) (A : Option Addr) (len cap : Nat) (now : Int) (w : World) (h : ¬ (0 ≤ tol ∧ tol ≤ 500000) ∨ 40 < len) :
    Calls Try.prog 4 #[.int .i64 tol, .slice A len cap, .int .i64 now] w fun e w' => e = .returned (.bool true) ∧ Below w.heap.size w w' := by
  by_cases ht : 0 ≤ tol ∧ tol ≤ 500000
  · have hlen : (40 : Int) < (len : Int) := by omega
    have hlenN : 40 < len := by omega
    have hN := Aside0.mk (fun W => new_ok tol W ht.1 ht.2)
    clear h ht
    go_enter Try.func4, Try.ntmps4
    go_wp2_with (first
      | (go_at_call 8
         with_reducible refine Calls.mono (hN.out _) ?_
         rintro e w1 ⟨rfl, F1, B1⟩)
      | (go_at_call 9
         with_reducible refine Calls.mono (awake_any _) ?_
         rintro e w5 ⟨rfl, b5⟩
         have L5 := B1.trans (b5.mono B1.size)))
    all_goals (go_ret; exact ⟨rfl, L5⟩)
  · have hN := Aside0.mk (fun W => new_no tol W (by omega))
    clear h ht
    go_enter Try.func4, Try.ntmps4
    go_wp2_with (first
      | (go_at_call 8
         with_reducible refine Calls.mono (hN.out _) ?_
         rintro e w1 ⟨rfl, rfl⟩)
      | (go_at_call 9
         with_reducible refine Calls.mono (awake_any _) ?_
         rintro e w5 ⟨rfl, b5⟩))
    all_goals (go_ret; exact ⟨rfl, b5⟩)
theorem FilterBest_walk (tol : Int) (A : Option Addr) (len cap : Nat) (l : List (Int × Int × Int × Int)) (now : Int) (w : World) (w0 : (Lit.int .i64 tol).wf = true) (hl : Rk.Row w A len cap l) (w1 : (Lit.int .i64 now).wf = true) :
    Calls Try.prog 4 #[.int .i64 tol, .slice A len cap, .int .i64 now] w fun e w' => e = .returned (.bool true) ∧ Below w.heap.size w w' := by
  by_cases h : ¬ (0 ≤ tol ∧ tol ≤ 500000) ∨ 40 < len
  · exact FilterBest_rest tol A len cap now w h
  · exact FilterBest_go tol A len cap l now w hl (by omega) (by omega) (by omega)
end Go.Proofs.Ytkbbjgjbfdpciaa.Fi
