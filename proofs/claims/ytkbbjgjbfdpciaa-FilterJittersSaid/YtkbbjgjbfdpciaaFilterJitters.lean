/- FilterJitters: walked. -/
import Derived.Test.YtkbbjgjbfdpciaaFz
namespace Go.Proofs.Ytkbbjgjbfdpciaa.Fi
open Go Go.RowKit Go.Proofs.YtkbbjgjbfdpciaaW.PrintWords Go.Proofs.YtkbbjgjbfdpciaaW.PrintLast Go.Proofs.YtkbbjgjbfdpciaaW.PrintMore Go.Proofs.Ytkbbjgjbfdpciaa.PAll Go.Proofs.Ytkbbjgjbfdpciaa.Pure
attribute [local go_sem] max2_int min2_int max_two min_two max_three min_three max_four min_four
set_option linter.unusedVariables false
set_option linter.unusedSimpArgs false

theorem cells4_below {B : Nat} {w w' : World} {a : Addr} {q0 q1 q2 q3 : Value} (hb : Below B w w') (hlt : a.block < B)
    (R : w.cell? a = some q0 ∧ w.cell? ⟨a.block, a.off + 1, none⟩ = some q1 ∧ w.cell? ⟨a.block, a.off + 2, none⟩ = some q2 ∧ w.cell? ⟨a.block, a.off + 3, none⟩ = some q3) :
    w'.cell? a = some q0 ∧ w'.cell? ⟨a.block, a.off + 1, none⟩ = some q1 ∧ w'.cell? ⟨a.block, a.off + 2, none⟩ = some q2 ∧ w'.cell? ⟨a.block, a.off + 3, none⟩ = some q3 := by
  have e : ∀ x : Addr, x.block = a.block → w'.cell? x = w.cell? x := fun x hx => World.cell?_of_block (hb.block x.block (by rw [hx]; exact hlt))
  exact ⟨(e a rfl).trans R.1, (e ⟨a.block, a.off + 1, none⟩ rfl).trans R.2.1, (e ⟨a.block, a.off + 2, none⟩ rfl).trans R.2.2.1, (e ⟨a.block, a.off + 3, none⟩ rfl).trans R.2.2.2⟩
theorem cells4_upd {b : Nat} {w w' : World} {a : Addr} {q0 q1 q2 q3 : Value} (hb : Upd w w' b) (hlt : a.block < w.heap.size) (hne : a.block ≠ b)
    (R : w.cell? a = some q0 ∧ w.cell? ⟨a.block, a.off + 1, none⟩ = some q1 ∧ w.cell? ⟨a.block, a.off + 2, none⟩ = some q2 ∧ w.cell? ⟨a.block, a.off + 3, none⟩ = some q3) :
    w'.cell? a = some q0 ∧ w'.cell? ⟨a.block, a.off + 1, none⟩ = some q1 ∧ w'.cell? ⟨a.block, a.off + 2, none⟩ = some q2 ∧ w'.cell? ⟨a.block, a.off + 3, none⟩ = some q3 := by
  have e : ∀ x : Addr, x.block = a.block → w'.cell? x = w.cell? x := fun x hx => World.cell?_of_block (hb.block x.block (by rw [hx]; exact hlt) (by rw [hx]; exact hne))
  exact ⟨(e a rfl).trans R.1, (e ⟨a.block, a.off + 1, none⟩ rfl).trans R.2.1, (e ⟨a.block, a.off + 2, none⟩ rfl).trans R.2.2.1, (e ⟨a.block, a.off + 3, none⟩ rfl).trans R.2.2.2⟩
theorem keepJ {w : World} {g : Nat} {a : Addr} {q0 q1 q2 q3 s0 s1 s2 s3 : Value} (B : w.heap[g]? = some (.cells #[s0, s1, s2, s3] 29))
    (R : w.cell? a = some q0 ∧ w.cell? ⟨a.block, a.off + 1, none⟩ = some q1 ∧ w.cell? ⟨a.block, a.off + 2, none⟩ = some q2 ∧ w.cell? ⟨a.block, a.off + 3, none⟩ = some q3) :
    w.cell? a = some q0 ∧ w.cell? ⟨a.block, a.off + 1, none⟩ = some q1 ∧ w.cell? ⟨a.block, a.off + 2, none⟩ = some q2 ∧ w.cell? ⟨a.block, a.off + 3, none⟩ = some q3 ∧ w.cell? ⟨g, 0, none⟩ = some s0 ∧ w.cell? ⟨g, 1, none⟩ = some s1 ∧ w.cell? ⟨g, 2, none⟩ = some s2 ∧ w.cell? ⟨g, 3, none⟩ = some s3 := by
  obtain ⟨h0, h1, h2, h3⟩ := cs4 B
  exact ⟨R.1, R.2.1, R.2.2.1, R.2.2.2, h0, h1, h2, h3⟩

set_option maxRecDepth 8000 in
set_option maxHeartbeats 8000000 in
theorem FilterJitters_go (A : Option Addr) (len cap : Nat) (l : List (Int × Int × Int × Int)) (d : Int) (w : World) (hl : Rk.Row w A len cap l) (h0 : -1000000000 ≤ d) (h1 : d ≤ 1000000000) (h8 : len ≤ 8) :
    Calls Try.prog 5 #[.slice A len cap, .int .i64 d] w fun e w' => e = .returned (.bool true) ∧ Below w.heap.size w w' := by
  have hN := Aside0.mk (fun W => new_ok 0 W (by decide) (by decide))
  have q1 : ¬ (8 : Int) < (len : Int) := by omega
  have q2 : ¬ 8 < len := by omega
  have q3 : ¬ d < -1000000000 := by omega
  have q4 : ¬ 1000000000 < d := by omega
  replace hl := Aside0.mk hl
  go_enter Try.func5, Try.ntmps5
  go_wp2_with (first
    | (go_at_call 8
       with_reducible refine Calls.mono (hN.out w) ?_
       rintro e w1 ⟨rfl, F1, B1⟩
       have q7 := F1.lt)
    | (go_at_call 8
       with_reducible refine Calls.mono (hN.out _) ?_
       rintro e w2 ⟨rfl, F2, B2⟩
       have F1' := F1.below B2
       have B2' := B1.trans (B2.mono B1.size)))
  have hne : w.heap.size ≠ w1.heap.size := by omega
  have hb1 : w.heap.size ≤ w1.heap.size := by omega
  generalize w1.heap.size = g2 at *
  go_loopw [8] (fun i wr => ∃ (k : Nat) (s : List S29), k ≤ len ∧ i = .int .i64 k ∧ Stg s ∧ (∀ y ∈ s, off50 y) ∧ Fil wr w.heap.size 0 s (-9223372036854775808) ∧ Fil wr g2 0 (s.map (sh d)) (-9223372036854775808) ∧ Below w.heap.size w wr) (fun i _ => len - (intOf i).toNat)
  · exact ⟨0, [], by omega, rfl, Stg.nil, (fun y h => by cases h), F1', F2, B2'⟩
  · obtain ⟨k, s, hk, rfl, hG, hO, hF, hF2, hL⟩ := hrel
    clear F1 B1 F1' F2 B2 B2' q7
    by_cases hlt : k < len
    · have hd := hl.out.below hL (fun a ha hl0 => hl.out.low a ha hl0)
      obtain ⟨a, rfl⟩ : ∃ a, A = some a := by
        cases A with
        | none => have := hl.out.nil rfl; omega
        | some a => exact ⟨a, rfl⟩
      have hkl : k < l.length := by rw [hd.cnt]; exact hlt
      have hlow := hl.out.low a rfl (by omega)
      have hdc := hd.cell a rfl k _ (List.getElem?_eq_getElem hkl)
      have hdc0 := hl.out.cell a rfl k _ (List.getElem?_eq_getElem hkl)
      have hbk : (a.add (k * 4)).block < w.heap.size := by rw [Rk.addr_block]; exact hlow
      generalize l[k] = p at *
      obtain ⟨p0, p1, p2, p3⟩ := p
      dsimp only at hdc hdc0
      obtain ⟨d0, d1, d2, d3⟩ := hdc
      have hkk : (k : Int) < (len : Int) := by omega
      have hk0 : (0 : Int) ≤ (k : Int) := by omega
      have hCk := fun W => check_any ⟨p0, p1, p2, p3⟩ W
      have A0 := blk_new wr (.cells #[.int .i64 p0, .int .i64 p1, .int .i64 p2, .int .i64 p3] 29)
      have F3 := hF.alloc (.cells #[.int .i64 p0, .int .i64 p1, .int .i64 p2, .int .i64 p3] 29)
      have F4 := hF2.alloc (.cells #[.int .i64 p0, .int .i64 p1, .int .i64 p2, .int .i64 p3] 29)
      have L3 := hL.alloc hL.size (.cells #[.int .i64 p0, .int .i64 p1, .int .i64 p2, .int .i64 p3] 29)
      have hn1 := hF.lt
      have hn2 := hF2.lt
      obtain ⟨z0, z1, z2, z3⟩ := cs4 A0
      clear hd
      by_cases hok : okS ⟨p0, p1, p2, p3⟩
      · simp only [if_pos hok] at hCk
        replace hCk := Aside0.mk hCk
        by_cases ho0 : p0 < -1125899906842624
        · go_wp2_with (first
            | (go_at_call 10
               with_reducible refine Calls.mono (hCk.out _) ?_
               rintro e w2 ⟨rfl, b2⟩
               have A2 := blk_below A0 b2
               have L4 := L3.trans (b2.mono L3.size)
               obtain ⟨z0, z1, z2, z3⟩ := cs4 A2)
            | (go_at_call 9
               with_reducible refine Calls.mono (awake_any _) ?_
               rintro e w5 ⟨rfl, b5⟩
               have L5 := L4.trans (b5.mono L4.size)))
          all_goals (go_ret; exact ⟨rfl, L5⟩)
        · by_cases ho1 : 1125899906842624 < p0
          · go_wp2_with (first
              | (go_at_call 10
                 with_reducible refine Calls.mono (hCk.out _) ?_
                 rintro e w2 ⟨rfl, b2⟩
                 have A2 := blk_below A0 b2
                 have L4 := L3.trans (b2.mono L3.size)
                 obtain ⟨z0, z1, z2, z3⟩ := cs4 A2)
              | (go_at_call 9
                 with_reducible refine Calls.mono (awake_any _) ?_
                 rintro e w5 ⟨rfl, b5⟩
                 have L5 := L4.trans (b5.mono L4.size)))
            all_goals (go_ret; exact ⟨rfl, L5⟩)
          · have hoff : off50 ⟨p0, p1, p2, p3⟩ := by unfold off50; dsimp only; omega
            have hA1 := Aside0.mk (fun W h => add_to w.heap.size 0 s (addL s ⟨p0, p1, p2, p3⟩) (-9223372036854775808) ⟨p0, p1, p2, p3⟩ (addE s ⟨p0, p1, p2, p3⟩) rfl rfl W h)
            have hA2 := Aside0.mk (fun W h => add_to g2 0 (s.map (sh d)) ((addL s ⟨p0, p1, p2, p3⟩).map (sh d)) (-9223372036854775808) ⟨p0 + d, p1, p2, p3⟩ (addE s ⟨p0, p1, p2, p3⟩) (sh_addE h0 h1 hoff hok) (sh_addL h0 h1 hoff hok) W h)
            have hG2 := Aside0.mk (hG.add ⟨p0, p1, p2, p3⟩)
            have hO2 := Aside0.mk (off_add hO hoff)
            generalize addL s ⟨p0, p1, p2, p3⟩ = s2 at *
            generalize addE s ⟨p0, p1, p2, p3⟩ = er at *
            have hsd : IntKind.i64.wrap (p0 + d) = p0 + d := by
              unfold off50 at hoff
              dsimp only at hoff
              simp [IntKind.wrap, IntKind.bits, IntKind.signed]
              omega
            have hl1 := Aside0.mk hdc0
            go_wp2_with (first
              | (go_at_call 10
                 with_reducible refine Calls.mono (hCk.out _) ?_
                 rintro e w2 ⟨rfl, b2⟩
                 have A2 := blk_below A0 b2
                 have L4 := L3.trans (b2.mono L3.size)
                 have F5 := F3.below b2
                 have F6 := F4.below b2
                 obtain ⟨z0, z1, z2, z3⟩ := cs4 A2
                 obtain ⟨y0, y1, y2, y3⟩ := fs4 A2
                 have A4 : (w2.setCell ⟨wr.heap.size, 0, none⟩ (.int .i64 (p0 + d))).heap[wr.heap.size]? = some (.cells #[.int .i64 (p0 + d), .int .i64 p1, .int .i64 p2, .int .i64 p3] 29) := blk_put A2 0 _ rfl
                 have L5 := L4.setCell (p := ⟨wr.heap.size, 0, none⟩) (Nat.le_of_lt hn1) (.int .i64 (p0 + d))
                 have F7 := F5.far (p := ⟨wr.heap.size, 0, none⟩) (Nat.ne_of_lt hn1) (.int .i64 (p0 + d))
                 have F8 := F6.far (p := ⟨wr.heap.size, 0, none⟩) (Nat.ne_of_lt hn2) (.int .i64 (p0 + d))
                 have R4 := cells4_below L5 hbk hl1.out
                 replace A4 := Aside0.mk A4
                 replace L5 := Aside0.mk L5
                 replace F7 := Aside0.mk F7
                 replace F8 := Aside0.mk F8
                 replace R4 := Aside0.mk R4))
            generalize w2.setCell ⟨wr.heap.size, 0, none⟩ (.int .i64 (p0 + d)) = w4 at *
            clear d0 d1 d2 d3 z0 z1 z2 z3 y0 y1 y2 y3
            obtain ⟨z0, z1, z2, z3⟩ := cs4 A4.out
            obtain ⟨d0, d1, d2, d3⟩ := R4.out
            have hlt4 := L5.out.size
            go_region_held3 (fun w' => w'.cell? (a.add (k * 4)) = some (.int .i64 p0) ∧ w'.cell? ⟨(a.add (k * 4)).block, (a.add (k * 4)).off + 1, none⟩ = some (.int .i64 p1) ∧ w'.cell? ⟨(a.add (k * 4)).block, (a.add (k * 4)).off + 2, none⟩ = some (.int .i64 p2) ∧ w'.cell? ⟨(a.add (k * 4)).block, (a.add (k * 4)).off + 3, none⟩ = some (.int .i64 p3) ∧ w'.cell? ⟨wr.heap.size, 0, none⟩ = some (.int .i64 (p0 + d)) ∧ w'.cell? ⟨wr.heap.size, 1, none⟩ = some (.int .i64 p1) ∧ w'.cell? ⟨wr.heap.size, 2, none⟩ = some (.int .i64 p2) ∧ w'.cell? ⟨wr.heap.size, 3, none⟩ = some (.int .i64 p3))
              (first | go_keep | exact keepJ B5 R5 | exact keepJ B6 R6)
              (first
              | (go_at_call 11
                 with_reducible refine Calls.mono (hA1.out _ (Fil.drew F7.out)) ?_
                 rintro e w5 ⟨rfl, F9, U9⟩
                 have B5 : w5.heap[wr.heap.size]? = some (.cells #[.int .i64 (p0 + d), .int .i64 p1, .int .i64 p2, .int .i64 p3] 29) := U9.blk (by exact A4.out) (Nat.ne_of_gt hn1)
                 have F10 : Fil w5 g2 0 (s.map (sh d)) (-9223372036854775808) := Fil.upd (Fil.drew F8.out) U9 (Ne.symm hne)
                 have R5 := cells4_upd U9 (show (a.add (k * 4)).block < w4.heap.size by omega) (Nat.ne_of_lt hbk) (by exact R4.out)
                 obtain ⟨v0, v1, v2, v3⟩ := cs4 B5
                 have L6 := Upd.below (pw_below_drewN L5.out 1) U9 (Nat.le_refl _) hlt4
                 replace F9 := Aside0.mk F9
                 replace F10 := Aside0.mk F10
                 replace L6 := Aside0.mk L6)
              | (go_at_call 11
                 with_reducible refine Calls.mono (hA2.out _ F10.out) ?_
                 rintro e w6 ⟨rfl, F11, U11⟩
                 have hs5 := L6.out.size
                 have B6 : w6.heap[wr.heap.size]? = some (.cells #[.int .i64 (p0 + d), .int .i64 p1, .int .i64 p2, .int .i64 p3] 29) := U11.blk (by exact B5) (Nat.ne_of_gt hn2)
                 have F12 : Fil w6 w.heap.size 0 s2 (-9223372036854775808) := Fil.upd F9.out U11 hne
                 have R6 := cells4_upd U11 (show (a.add (k * 4)).block < w5.heap.size by omega) (by omega) (by exact R5)
                 obtain ⟨v0, v1, v2, v3⟩ := cs4 B6
                 have L7 := Upd.below L6.out U11 hb1 hs5))
            all_goals
              go_wp2
              go_roundw
              case rel => exact ⟨k + 1, s2, by omega, by push_cast; rfl, hG2.out, hO2.out, F12, F11, L7⟩
              case measure => simp [intOf]; omega
      · simp only [if_neg hok] at hCk
        replace hCk := Aside0.mk hCk
        go_wp2_with (first
          | (go_at_call 10
             with_reducible refine Calls.mono (hCk.out _) ?_
             rintro e w2 ⟨rfl, b2⟩
             have A2 := blk_below A0 b2
             have L4 := L3.trans (b2.mono L3.size)
             obtain ⟨z0, z1, z2, z3⟩ := cs4 A2)
          | (go_at_call 9
             with_reducible refine Calls.mono (awake_any _) ?_
             rintro e w5 ⟨rfl, b5⟩
             have L5 := L4.trans (b5.mono L4.size)))
        all_goals (go_ret; exact ⟨rfl, L5⟩)
    · have hkk : ¬ (k : Int) < (len : Int) := by omega
      have hs8 := hF.len
      obtain ⟨r, r0, r1, hrz, hJ1, hJ2⟩ := jit_two w.heap.size g2 s d h0 h1 hG hO hs8
      have hr0 : ¬ r < 0 := by omega
      have hr1 : ¬ 1073741824 < r := by omega
      replace hJ1 := Aside0.mk hJ1
      replace hJ2 := Aside0.mk hJ2
      replace hrz := Aside0.mk hrz
      replace hG := Aside0.mk hG
      replace hO := Aside0.mk hO
      have hSm := Aside0.mk (fun W h => samples_any w.heap.size 0 s (-9223372036854775808) W h)
      go_wp2_with (first
        | (go_at_call 12
           with_reducible refine Calls.mono (hSm.out _ hF) ?_
           rintro e w3 ⟨g, cp, rfl, hg, hcp, hS, b3⟩
           have F3 := hF.below b3
           have F4 := hF2.below b3
           have L3 := hL.trans (b3.mono hL.size)))
      replace hS := Aside0.mk hS
      replace F3 := Aside0.mk F3
      replace F4 := Aside0.mk F4
      replace L3 := Aside0.mk L3
      go_loopw [7, 11] (fun se si wx => ∃ (i : Nat) (v : Bool), 1 ≤ i ∧ si = .int .i64 i ∧ se = .bool v ∧ (v = true → ∀ (k : Nat) (y z : S29), k < i → s[k]? = some y → s[0]? = some z → y.f0 = z.f0) ∧ SRow wx g s ∧ Fil wx w.heap.size 0 s (-9223372036854775808) ∧ Fil wx g2 0 (s.map (sh d)) (-9223372036854775808) ∧ Below w.heap.size w wx) (fun _ si _ => s.length - (intOf si).toNat)
      · exact ⟨1, true, Nat.le_refl _, rfl, rfl, (fun _ k y z hk hy hz => by
          have hk0 : k = 0 := by omega
          subst hk0
          rw [hy] at hz
          rw [Option.some.inj hz]), hS.out, F3.out, F4.out, L3.out⟩
      · obtain ⟨i, v, hi1, rfl, rfl, hv, hS', F5, F6, L5⟩ := hrel
        replace hS' := Aside0.mk hS'
        replace F5 := Aside0.mk F5
        replace F6 := Aside0.mk F6
        replace L5 := Aside0.mk L5
        replace hv := Aside0.mk hv
        by_cases his : i < s.length
        · have hisI : (i : Int) < (s.length : Int) := by omega
          have hi0 : (0 : Int) ≤ (i : Int) := by omega
          have hsl0 : (0 : Int) < (s.length : Int) := by omega
          have hsl0N : 0 < s.length := by omega
          have hz : s[i]? = some s[i] := List.getElem?_eq_getElem his
          have hx0 : s[0]? = some s[0] := List.getElem?_eq_getElem (by omega)
          generalize s[i] = z at *
          generalize s[0] = x at *
          obtain ⟨c0, c1, c2, c3⟩ := hS'.out.get hz
          obtain ⟨e0, e1, e2, e3⟩ := hS'.out.get hx0
          rw [Nat.zero_mul] at e0
          clear c1 c2 c3 e1 e2 e3
          cases v
          · go_wp2
            go_quiet (fail)
            go_wp2
            all_goals
              go_roundw
              case rel => exact ⟨i + 1, false, by omega, by push_cast; rfl, rfl, (fun h => by cases h), hS'.out.drewN nq, F5.out.drewN nq, F6.out.drewN nq, pw_below_drewN L5.out nq⟩
              case measure => simp [intOf]; omega
          · by_cases hc : z.f0 = x.f0
            · have hcb : (z.f0 == x.f0) = true := by simpa using hc
              go_wp2
              go_quiet (fail)
              go_wp2
              all_goals
                go_roundw
                case rel => exact ⟨i + 1, true, by omega, by push_cast; rfl, (by first | rfl | simp [hc]), (fun _ k y u hk hy hu => by
                  by_cases hki : k = i
                  · subst hki
                    rw [hz] at hy; rw [hx0] at hu
                    rw [← Option.some.inj hy, ← Option.some.inj hu]; exact hc
                  · exact hv.out (by first | rfl | trivial) k y u (by omega) hy hu), hS'.out.drewN nq, F5.out.drewN nq, F6.out.drewN nq, pw_below_drewN L5.out nq⟩
                case measure => simp [intOf]; omega
            · have hcb : (z.f0 == x.f0) = false := beq_false_of_ne hc
              go_wp2
              go_quiet (fail)
              go_wp2
              all_goals
                go_roundw
                case rel => exact ⟨i + 1, false, by omega, by push_cast; rfl, (by first | rfl | simp [hc]), (fun h => by cases h), hS'.out.drewN nq, F5.out.drewN nq, F6.out.drewN nq, pw_below_drewN L5.out nq⟩
                case measure => simp [intOf]; omega
        · have hisI : ¬ (i : Int) < (s.length : Int) := by omega
          cases v
          · go_wp2_with (first
              | (go_at_call 17
                 with_reducible refine Calls.mono (hJ1.out _ _ F5.out) ?_
                 rintro e w6 ⟨rfl, b6⟩
                 have F7 := F6.out.below b6
                 have L6 := L5.out.trans (b6.mono L5.out.size))
              | (go_at_call 17
                 with_reducible refine Calls.mono (hJ2.out _ _ F7) ?_
                 rintro e w7 ⟨rfl, b7⟩
                 have L7 := L6.trans (b7.mono L6.size))
              | (go_at_call 9
                 with_reducible refine Calls.mono (awake_any _) ?_
                 rintro e w8 ⟨rfl, b8⟩
                 have L8 := L7.trans (b8.mono L7.size)))
            all_goals (go_ret; exact ⟨rfl, L8⟩)
          · have hr : r = 0 := hrz.out fun k y z hy hz => hv.out rfl k y z (by have := (List.getElem?_eq_some_iff.1 hy).1; omega) hy hz
            subst hr
            go_wp2_with (first
              | (go_at_call 17
                 with_reducible refine Calls.mono (hJ1.out _ _ F5.out) ?_
                 rintro e w6 ⟨rfl, b6⟩
                 have F7 := F6.out.below b6
                 have L6 := L5.out.trans (b6.mono L5.out.size))
              | (go_at_call 17
                 with_reducible refine Calls.mono (hJ2.out _ _ F7) ?_
                 rintro e w7 ⟨rfl, b7⟩
                 have L7 := L6.trans (b7.mono L6.size))
              | (go_at_call 9
                 with_reducible refine Calls.mono (awake_any _) ?_
                 rintro e w8 ⟨rfl, b8⟩
                 have L8 := L7.trans (b8.mono L7.size)))
            all_goals (go_ret; exact ⟨rfl, L8⟩)

set_option maxHeartbeats 2000000 in
theorem FilterJitters_rest (A : Option Addr) (len cap : Nat) (d : Int) (w : World) (h : 8 < len ∨ d < -1000000000 ∨ 1000000000 < d) :
    Calls Try.prog 5 #[.slice A len cap, .int .i64 d] w fun e w' => e = .returned (.bool true) ∧ Below w.heap.size w w' := by
  by_cases a : 8 < len
  · have ai : (8 : Int) < (len : Int) := by omega
    clear h
    go_enter Try.func5, Try.ntmps5
    go_wp2_with (first
      | (go_at_call 9
         with_reducible refine Calls.mono (awake_any _) ?_
         rintro e w5 ⟨rfl, b5⟩))
    all_goals (go_ret; exact ⟨rfl, b5⟩)
  by_cases b : d < -1000000000
  · have ai : ¬ (8 : Int) < (len : Int) := by omega
    clear h
    go_enter Try.func5, Try.ntmps5
    go_wp2_with (first
      | (go_at_call 9
         with_reducible refine Calls.mono (awake_any _) ?_
         rintro e w5 ⟨rfl, b5⟩))
    all_goals (go_ret; exact ⟨rfl, b5⟩)
  have c : 1000000000 < d := by omega
  have ai : ¬ (8 : Int) < (len : Int) := by omega
  clear h
  go_enter Try.func5, Try.ntmps5
  go_wp2_with (first
    | (go_at_call 9
       with_reducible refine Calls.mono (awake_any _) ?_
       rintro e w5 ⟨rfl, b5⟩))
  all_goals (go_ret; exact ⟨rfl, b5⟩)
theorem FilterJitters_walk (A : Option Addr) (len cap : Nat) (l : List (Int × Int × Int × Int)) (d : Int) (w : World) (hl : Rk.Row w A len cap l) (w1 : (Lit.int .i64 d).wf = true) :
    Calls Try.prog 5 #[.slice A len cap, .int .i64 d] w fun e w' => e = .returned (.bool true) ∧ Below w.heap.size w w' := by
  by_cases h : 8 < len ∨ d < -1000000000 ∨ 1000000000 < d
  · exact FilterJitters_rest A len cap d w h
  · exact FilterJitters_go A len cap l d w hl (by omega) (by omega) (by omega)
end Go.Proofs.Ytkbbjgjbfdpciaa.Fi
