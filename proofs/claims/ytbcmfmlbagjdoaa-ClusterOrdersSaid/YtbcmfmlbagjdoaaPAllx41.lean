-- A text of this session, written by a program of its own (wip/tools).
import Derived.Test.YtbcmfmlbagjdoaaPAllx0
import Derived.Test.YtbcmfmlbagjdoaaPAllx38
import Derived.Test.YtbcmfmlbagjdoaaPAllx39
import Derived.Test.YtbcmfmlbagjdoaaPAllx40
namespace Go.Proofs.Ytbcmfmlbagjdoaa.PAll
open Go.RowKit Go.Proofs.YtbcmfmlbagjdoaaW.PrintWords Go.Proofs.YtbcmfmlbagjdoaaW.PrintLast Go.Proofs.YtbcmfmlbagjdoaaW.PrintMore
attribute [local go_sem] max2_int min2_int max_two min_two max_three min_three max_four min_four   -- for this text's walks alone
set_option linter.unusedVariables false
set_option linter.unusedSimpArgs false

/-! ### timesyncref25_Order: function 14 -/
mutual
def timesyncref25_Order.l0 : Nat → List (S34) → List (S34) → Option ((List (S34)))
  | 0, _, _ => none
  | k + 1, x0, x3 => if (x0.length : Int) > 0 then (timesyncref25_Order.l1 k x0 x3 0 1) else (some x3)
def timesyncref25_Order.l1 : Nat → List (S34) → List (S34) → Int → Int → Option ((List (S34)))
  | 0, _, _, _, _ => none
  | k + 1, x0, x3, x4, x5 => if x5 < (x0.length : Int) then (if 0 ≤ x5 then (if 0 ≤ x4 then (if x4 < (x0.length : Int) then ((timesyncref25_before.f ((rd_T34 x0 x5).f0) ((rd_T34 x0 x5).f1) ((rd_T34 x0 x5).f2) ((rd_T34 x0 x5).f3) ((rd_T34 x0 x5).f4) ((rd_T34 x0 x4).f0) ((rd_T34 x0 x4).f1) ((rd_T34 x0 x4).f2) ((rd_T34 x0 x4).f3) ((rd_T34 x0 x4).f4)).bind fun t201 => (if t201 = true then (timesyncref25_Order.l1 k x0 x3 x5 (wrap64 (x5 + 1))) else (timesyncref25_Order.l1 k x0 x3 x4 (wrap64 (x5 + 1))))) else (none)) else (none)) else (none)) else (if 0 ≤ x4 then (if x4 < (x0.length : Int) then (if x3.length < 3518437208883 then ((timesyncref25_without.f x0 x4).bind fun t206 => (timesyncref25_Order.l0 k t206 (x3 ++ [(⟨(rd_T34 x0 x4).f0, (rd_T34 x0 x4).f1, (rd_T34 x0 x4).f2, (rd_T34 x0 x4).f3, (rd_T34 x0 x4).f4⟩ : S34)]))) else (none)) else (none)) else (none))
end
def timesyncref25_Order.f (k : Nat) (l0 : List (S34)) : Option ((List (S34))) := (timesyncref24_Check.f k l0).bind fun t198 => (if t198 = 0 then (timesyncref25_Order.l0 k l0 ([] : List (S34))) else (some ([] : List (S34))))
theorem timesyncref25_Order.mono_l : ∀ k, (∀ y0 y1, LeO (timesyncref25_Order.l0 k y0 y1) (timesyncref25_Order.l0 (k + 1) y0 y1)) ∧ (∀ y0 y1 y2 y3, LeO (timesyncref25_Order.l1 k y0 y1 y2 y3) (timesyncref25_Order.l1 (k + 1) y0 y1 y2 y3))
  | 0 => ⟨fun _ _ r h => by simp [timesyncref25_Order.l0] at h, fun _ _ _ _ r h => by simp [timesyncref25_Order.l1] at h⟩
  | k + 1 => by
    obtain ⟨ih0, ih1⟩ := timesyncref25_Order.mono_l k
    refine ⟨?_, ?_⟩
    · intro y0 y1
      unfold timesyncref25_Order.l0
      repeat' first
      | (with_reducible exact ih0 _ _)
      | (with_reducible exact ih1 _ _ _ _)
      | (with_reducible exact timesyncref24_Check.mono _ _)
      | (with_reducible exact LeO.refl _)
      | (with_reducible exact LeO.none _)
      | (with_reducible refine LeO.ite ?_ ?_)
      | (with_reducible refine LeO.bind ?_ (fun _ => ?_))
      | exact ih0 _ _
      | exact ih1 _ _ _ _
      | exact timesyncref24_Check.mono _ _
      | exact LeO.none _
      | refine LeO.ite ?_ ?_
      | refine LeO.bind ?_ (fun _ => ?_)
    · intro y0 y1 y2 y3
      unfold timesyncref25_Order.l1
      repeat' first
      | (with_reducible exact ih0 _ _)
      | (with_reducible exact ih1 _ _ _ _)
      | (with_reducible exact timesyncref24_Check.mono _ _)
      | (with_reducible exact LeO.refl _)
      | (with_reducible exact LeO.none _)
      | (with_reducible refine LeO.ite ?_ ?_)
      | (with_reducible refine LeO.bind ?_ (fun _ => ?_))
      | exact ih0 _ _
      | exact ih1 _ _ _ _
      | exact timesyncref24_Check.mono _ _
      | exact LeO.none _
      | refine LeO.ite ?_ ?_
      | refine LeO.bind ?_ (fun _ => ?_)
theorem timesyncref25_Order.mono : ∀ a0 k, LeO (timesyncref25_Order.f k a0) (timesyncref25_Order.f (k + 1) a0) := by
  intro a0 k
  obtain ⟨ih0, ih1⟩ := timesyncref25_Order.mono_l k
  unfold timesyncref25_Order.f
  repeat' first
      | (with_reducible exact ih0 _ _)
      | (with_reducible exact ih1 _ _ _ _)
      | (with_reducible exact timesyncref24_Check.mono _ _)
      | (with_reducible exact LeO.refl _)
      | (with_reducible exact LeO.none _)
      | (with_reducible refine LeO.ite ?_ ?_)
      | (with_reducible refine LeO.bind ?_ (fun _ => ?_))
      | exact ih0 _ _
      | exact ih1 _ _ _ _
      | exact timesyncref24_Check.mono _ _
      | exact LeO.none _
      | refine LeO.ite ?_ ?_
      | refine LeO.bind ?_ (fun _ => ?_)
def timesyncref25_Order.T9 : Bool × List (List Nat × List Nat) := (true, [([], []), ([], []), ([0, 1], [0, 1]), ([2], [2]), ([], []), ([], []), ([4, 5], [4, 5]), ([6], [6]), ([3, 7], [3, 7])])
def timesyncref25_Order.B9 : List Nat := [0, 0, 3, 7, 0, 0, 48, 112, 255]
theorem timesyncref25_Order.tab9 : rtab .any (opsOf Try.f14 9) = timesyncref25_Order.T9 := by kernel_rfl
theorem timesyncref25_Order.bits9 : waitsOk timesyncref25_Order.T9.2 timesyncref25_Order.B9 = true := by kernel_rfl
abbrev b14_0 : Array Bool := #[false, false, false, false, false, false, false, false, false]
abbrev b14_1 : Array Bool := #[true, false, false, false, false, false, false, false, false]
abbrev b14_2 : Array Bool := #[true, true, false, false, false, false, false, false, false]
abbrev b14_3 : Array Bool := #[true, true, true, false, false, false, false, false, false]
abbrev b14_4 : Array Bool := #[true, true, true, false, true, false, false, false, false]
abbrev b14_5 : Array Bool := #[true, true, true, false, true, true, false, false, false]
abbrev b14_6 : Array Bool := #[true, true, true, false, true, true, true, false, false]
abbrev b14_7 : Array Bool := #[true, true, true, true, true, true, true, false, false]
abbrev b14_8 : Array Bool := #[true, true, true, true, true, true, true, true, false]
abbrev b14_9 : Array Bool := #[true, true, true, true, true, true, true, true, true]
set_option maxHeartbeats 8000000 in
set_option maxRecDepth 100000 in
theorem timesyncref25_Order.calls (k : Nat) (P0_ : Nat → Prop) (A0 : Option Addr) (c0 : Nat) (l0 : List (S34)) (r : List (S34)) (w : World) (hs0 : Kd.V k34 34 w w.heap.size (fun k_ => P0_ k_) (.slice A0 l0.length c0) l0) (h : timesyncref25_Order.f k l0 = some r) :
    Calls Try.prog 14 #[.slice A0 l0.length c0] w fun e w' => ∃ v0_ : Value, e = .returned (v0_) ∧ Kd.R k34 34 w' w.heap.size (fun k_ => (w.heap.size ≤ k_)) v0_ r ∧ Below w.heap.size w w' := by
  have hu34 := Try.underlying34
  have HO0 := Aside0.mk (show Kd.V k34 34 w w.heap.size (fun k_ => (P0_ k_ ∨ w.heap.size ≤ k_)) (.slice A0 l0.length c0) l0 from Kd.V_mono hs0 (fun k_ hk => .inl hk))
  have HB := Aside0.mk (Below.refl w.heap.size w)
  have H : ((timesyncref24_Check.f k l0).bind fun t198 => (if t198 = 0 then (timesyncref25_Order.l0 k l0 ([] : List (S34))) else (some ([] : List (S34))))) = some r := h
  clear h
  replace H := Option.bind_eq_some_iff.mp H
  obtain ⟨t198, A20, H⟩ := H
  replace H : (if t198 = 0 then (timesyncref25_Order.l0 k l0 ([] : List (S34))) else (some ([] : List (S34)))) = some r := H
  have A2 := Aside0.mk A20
  clear A20
  by_cases c3 : t198 = 0
  · rw [if_pos c3] at H
    have c3b0 : (t198 == 0) = true := beq_iff_eq.mpr c3
    have c3b1 : (t198 != 0) = false := bne_eq_false_iff_eq.mpr c3
    clear c3
    have H' := Aside0.mk H
    clear H
    go_enter Try.func14, Try.ntmps14
    go_wp2_with (first | ((with_reducible refine gate_callee (f := 21) rfl ?_); refine goesL_ (some 7) rfl rfl Try.func21 (by kernel_rfl) rfl #[.slice A0 l0.length c0] rfl sl_ ?_; (with_reducible refine (timesyncref24_Check.calls k _ _ l0 t198 _ ?side1 ?side2 A2.out).mono ?_); (case side1 => repeat (first | exact (Kd.V_reads' HO0.out).2.2 | (with_reducible refine Kd.C_alloc ?_ _) | (with_reducible refine Kd.C_drewN ?_ _) | (with_reducible refine Kd.C_drew ?_))); (case side2 => exact (Kd.V_reads' HO0.out).2.1); rintro e w4 ⟨rfl, hb⟩; refine ⟨_, rfl, ?_⟩; have n0_ := Aside0.mk (Kd.V_below (by (with_reducible repeat (first | apply Kd.V_alloc | apply Kd.V_drewN | apply Kd.V_drew)); exact HO0.out) hb); have n1_ := Aside0.mk (below_step hb_ hb); clear HO0; clear HB; have HO0 := n0_; have HB := n1_; clear n0_ n1_; (try clear hb); (try clear hb2); (try clear hk); (try clear hi)))
    go_loopg [0, 3] k (fun kq v0 v3 w' => ∃ (x0_1 : List (S34)) (x3_1 : List (S34)), Aside0 (timesyncref25_Order.l0 kq x0_1 x3_1 = some r) ∧ Aside0 (kq ≤ k) ∧ Aside0 (Kd.V k34 34 w' w.heap.size (fun k_ => (P0_ k_ ∨ w.heap.size ≤ k_) ∧ some k_ ≠ (v3 : Value).ownBlock) v0 x0_1) ∧ Aside0 (Kd.R k34 34 w' w.heap.size (fun k_ => (w.heap.size ≤ k_)) v3 x3_1) ∧ Aside0 (Below w.heap.size w w'))
    case atStart => exact ⟨(l0), (([] : List (S34))), H', ⟨Nat.le_refl _⟩, ⟨by (with_reducible repeat (first | apply Kd.V_alloc | apply Kd.V_drewN | apply Kd.V_drew)); exact Kd.V_mono HO0.out (fun _ hk => ⟨hk, (by simp [Value.ownBlock])⟩)⟩, ⟨by first | exact Kd.R_nil _ _ _ _ _ | exact Kd.N_nil _ _ _ _ _ | exact Kd.V_nil _ _ _ _ _ | exact Kd.Q_nil _ _ _ _ _ | exact Kd.S_nil _ _ _ _ _⟩, ⟨hb_⟩⟩
    case round =>
      clear H'
      try clear c1
      try clear c2
      try clear p2
      try clear c3
      try clear c3b0
      try clear c3b1
      obtain ⟨x0_1, x3_1, HA, HK1, HO_0, HO_3, HB⟩ := hrel
      cases gk with
      | zero => exact absurd HA.out (by simp [timesyncref25_Order.l0])
      | succ k1 =>
        have H := HA.out
        clear HA
        simp only [timesyncref25_Order.l0] at H
        by_cases c5 : (x0_1.length : Int) > 0
        · rw [if_pos c5] at H
          have c5b0 : decide (0 < (x0_1.length : Int)) = true := decide_eq_true c5
          have c5b1 : decide (0 < x0_1.length) = true := decide_eq_true (by omega)
          clear c5
          have H' := Aside0.mk H
          clear H
          obtain ⟨Ao6, co6, eo6⟩ := Kd.V_slice HO_0.out
          subst eo6
          go_wp2
          go_loopg [4, 5] k1 (fun kq v4 v5 w' => ∃ (x4_2 : Int) (x5_2 : Int), v4 = .int .i64 x4_2 ∧ v5 = .int .i64 x5_2 ∧ Aside0 (timesyncref25_Order.l1 kq x0_1 x3_1 x4_2 x5_2 = some r) ∧ Aside0 (kq ≤ k1) ∧ Aside0 (Kd.V k34 34 w' w.heap.size (fun k_ => (P0_ k_ ∨ w.heap.size ≤ k_) ∧ some k_ ≠ (u3 : Value).ownBlock) (.slice Ao6 x0_1.length co6) x0_1) ∧ Aside0 (Kd.R k34 34 w' w.heap.size (fun k_ => (w.heap.size ≤ k_)) u3 x3_1) ∧ Aside0 (Below w.heap.size w w'))
          case atStart => exact ⟨(0), (1), (by first | rfl | (simp; done) | (simp [*]; done)), (by first | rfl | (simp; done) | (simp [*]; done)), H', ⟨Nat.le_refl _⟩, ⟨by (with_reducible repeat (first | apply Kd.V_alloc | apply Kd.V_drewN | apply Kd.V_drew)); exact HO_0.out⟩, ⟨by (with_reducible repeat (first | apply Kd.R_alloc | apply Kd.R_drewN | apply Kd.R_drew)); exact HO_3.out⟩, ⟨hb_⟩⟩
          case round =>
            clear H'
            try clear c1
            try clear c2
            try clear p2
            try clear c3
            try clear c3b0
            try clear c3b1
            try clear c5
            try clear c5b0
            try clear c5b1
            try clear p2
            obtain ⟨x4_2, x5_2, rfl, rfl, HA, HK2, HO_0, HO_3, HB⟩ := hrel
            cases gk with
            | zero => exact absurd HA.out (by simp [timesyncref25_Order.l1])
            | succ k2 =>
              have H := HA.out
              clear HA
              simp only [timesyncref25_Order.l1] at H
              by_cases c7 : x5_2 < (x0_1.length : Int)
              · rw [if_pos c7] at H
                have c7b0 : decide (x5_2 < (x0_1.length : Int)) = true := decide_eq_true c7
                clear c7
                by_cases c8 : 0 ≤ x5_2
                · rw [if_pos c8] at H
                  have c8b0 : decide (0 ≤ x5_2) = true := decide_eq_true c8
                  clear c8
                  by_cases c9 : 0 ≤ x4_2
                  · rw [if_pos c9] at H
                    have c9b0 : decide (0 ≤ x4_2) = true := decide_eq_true c9
                    clear c9
                    by_cases c10 : x4_2 < (x0_1.length : Int)
                    · rw [if_pos c10] at H
                      have c10b0 : decide (x4_2 < (x0_1.length : Int)) = true := decide_eq_true c10
                      clear c10
                      replace H := Option.bind_eq_some_iff.mp H
                      obtain ⟨t201, A110, H⟩ := H
                      replace H : (if t201 = true then (timesyncref25_Order.l1 k2 x0_1 x3_1 x5_2 (wrap64 (x5_2 + 1))) else (timesyncref25_Order.l1 k2 x0_1 x3_1 x4_2 (wrap64 (x5_2 + 1)))) = some r := H
                      have A11 := Aside0.mk A110
                      clear A110
                      by_cases c12 : t201 = true
                      · subst c12
                        have H1 : (timesyncref25_Order.l1 k2 x0_1 x3_1 x5_2 (wrap64 (x5_2 + 1))) = some r := by rw [if_pos rfl] at H; exact H
                        clear H
                        have H := H1
                        clear H1
                        have H' := Aside0.mk H
                        clear H
                        try go_wp2
                        have n0_ := Aside0.mk (Kd.V_drew HO_0.out)
                        have n1_ := Aside0.mk (Kd.R_drew HO_3.out)
                        have n2_ := Aside0.mk (below_drew1 HB.out)
                        clear HO_0
                        clear HO_3
                        clear HB
                        have HO_0 := n0_
                        have HO_3 := n1_
                        have HB := n2_
                        clear n0_ n1_ n2_
                        have p199 : 0 ≤ (x5_2 : Int) := of_decide_eq_true (by first | (with_reducible assumption) | assumption)
                        have q199 : x5_2 < (x0_1.length : Int) := of_decide_eq_true (by first | (with_reducible assumption) | assumption)
                        obtain ⟨ad199, e199, hx199_0, hx199_1, hx199_2, hx199_3, hx199_4⟩ := at_T34 (Kd.V_reads' HO_0.out).2.2 x5_2 p199 q199
                        cases e199
                        replace p199 := eq_true p199
                        replace q199 := eq_true q199
                        have p200 : 0 ≤ (x4_2 : Int) := of_decide_eq_true (by first | (with_reducible assumption) | assumption)
                        have q200 : x4_2 < (x0_1.length : Int) := of_decide_eq_true (by first | (with_reducible assumption) | assumption)
                        obtain ⟨ad200, e200, hx200_0, hx200_1, hx200_2, hx200_3, hx200_4⟩ := at_T34 (Kd.V_reads' HO_0.out).2.2 x4_2 p200 q200
                        obtain rfl : ad199 = ad200 := (by injection e200)
                        replace p200 := eq_true p200
                        replace q200 := eq_true q200
                        refine start_ (n := 9) (S := fun w' => w'.cell? (ad199.add ((x5_2).toNat * 5)) = some (.int .i64 ((rd_T34 x0_1 x5_2).f0)) ∧ w'.cell? ⟨(ad199.add ((x5_2).toNat * 5)).block, (ad199.add ((x5_2).toNat * 5)).off + 1, none⟩ = some (.int .i64 ((rd_T34 x0_1 x5_2).f1)) ∧ w'.cell? ⟨(ad199.add ((x5_2).toNat * 5)).block, (ad199.add ((x5_2).toNat * 5)).off + 2, none⟩ = some (.int .i64 ((rd_T34 x0_1 x5_2).f2)) ∧ w'.cell? ⟨(ad199.add ((x5_2).toNat * 5)).block, (ad199.add ((x5_2).toNat * 5)).off + 3, none⟩ = some (.int .i64 ((rd_T34 x0_1 x5_2).f3)) ∧ w'.cell? ⟨(ad199.add ((x5_2).toNat * 5)).block, (ad199.add ((x5_2).toNat * 5)).off + 4, none⟩ = some (.int .i64 ((rd_T34 x0_1 x5_2).f4)) ∧ w'.cell? (ad199.add ((x4_2).toNat * 5)) = some (.int .i64 ((rd_T34 x0_1 x4_2).f0)) ∧ w'.cell? ⟨(ad199.add ((x4_2).toNat * 5)).block, (ad199.add ((x4_2).toNat * 5)).off + 1, none⟩ = some (.int .i64 ((rd_T34 x0_1 x4_2).f1)) ∧ w'.cell? ⟨(ad199.add ((x4_2).toNat * 5)).block, (ad199.add ((x4_2).toNat * 5)).off + 2, none⟩ = some (.int .i64 ((rd_T34 x0_1 x4_2).f2)) ∧ w'.cell? ⟨(ad199.add ((x4_2).toNat * 5)).block, (ad199.add ((x4_2).toNat * 5)).off + 3, none⟩ = some (.int .i64 ((rd_T34 x0_1 x4_2).f3)) ∧ w'.cell? ⟨(ad199.add ((x4_2).toNat * 5)).block, (ad199.add ((x4_2).toNat * 5)).off + 4, none⟩ = some (.int .i64 ((rd_T34 x0_1 x4_2).f4))) (ds := []) b14_0 (by kernel_rfl) rfl rfl ⟨hx199_0, hx199_1, hx199_2, hx199_3, hx199_4, hx200_0, hx200_1, hx200_2, hx200_3, hx200_4⟩ (fun hHeld => ?_); refine with_tabW timesyncref25_Order.tab9 timesyncref25_Order.bits9 (fun HT_ HW_ => ?_)
                        generalize wr.drew = w13 at HO_0 HO_3 HB hx199_0 hx199_1 hx199_2 hx199_3 hx199_4 hx200_0 hx200_1 hx200_2 hx200_3 hx200_4 hHeld ⊢
                        refine pure_ (i := 0) (N := some 18) (v := ?_) (a' := ?_) b14_1 rfl rfl (any_of HT_.out (by kernel_rfl)) (fun _ _ _ h => h) (Or.inl ⟨by rfl, ?_⟩) ?_ ?_
                        rotate_left
                        · intro w'
                          go_simp
                          with_reducible rfl
                        rotate_left
                        · simp only [Act.put, z1, z2, z3, i64_w, i32_w]
                          rfl
                        refine pure_ (i := 1) (N := some 19) (v := ?_) (a' := ?_) b14_2 rfl rfl (any_of HT_.out (by kernel_rfl)) (fun _ _ _ h => h) (Or.inl ⟨by rfl, ?_⟩) ?_ ?_
                        rotate_left
                        · intro w'
                          go_simp
                          with_reducible rfl
                        rotate_left
                        · simp only [Act.put, z1, z2, z3, i64_w, i32_w]
                          rfl
                        refine pure_ (i := 2) (N := some 20) (v := ?_) (a' := ?_) b14_3 rfl rfl (any_of HT_.out (by kernel_rfl)) (fun _ _ _ h => h) (Or.inl ⟨by rfl, ?_⟩) ?_ ?_
                        rotate_left
                        · intro w'
                          go_simp
                          with_reducible rfl
                        rotate_left
                        · simp only [Act.put, z1, z2, z3, i64_w, i32_w]
                          rfl
                        refine pure_ (i := 4) (N := some 22) (v := ?_) (a' := ?_) b14_4 rfl rfl (any_of HT_.out (by kernel_rfl)) (fun _ _ _ h => h) (Or.inl ⟨by rfl, ?_⟩) ?_ ?_
                        rotate_left
                        · intro w'
                          go_simp
                          with_reducible rfl
                        rotate_left
                        · simp only [Act.put, z1, z2, z3, i64_w, i32_w]
                          rfl
                        refine pure_ (i := 5) (N := some 23) (v := ?_) (a' := ?_) b14_5 rfl rfl (any_of HT_.out (by kernel_rfl)) (fun _ _ _ h => h) (Or.inl ⟨by rfl, ?_⟩) ?_ ?_
                        rotate_left
                        · intro w'
                          go_simp
                          with_reducible rfl
                        rotate_left
                        · simp only [Act.put, z1, z2, z3, i64_w, i32_w]
                          rfl
                        refine pure_ (i := 6) (N := some 24) (v := ?_) (a' := ?_) b14_6 rfl rfl (any_of HT_.out (by kernel_rfl)) (fun _ _ _ h => h) (Or.inl ⟨by rfl, ?_⟩) ?_ ?_
                        rotate_left
                        · intro w'
                          go_simp
                          with_reducible rfl
                        rotate_left
                        · simp only [Act.put, z1, z2, z3, i64_w, i32_w]
                          rfl
                        refine take_ (i := 3) (N := some 21) (v := ?_) (a' := ?_) b14_7 rfl rfl (take_ofW HT_.out HW_.out (by kernel_rfl)) (fun _ _ _ h => h) (Or.inl ⟨by rfl, ?_⟩) hHeld ?_ ?_
                        rotate_left
                        · rintro w' ⟨s0, s1, s2, s3, s4, s5, s6, s7, s8, s9⟩
                          go_simp
                          with_reducible rfl
                        rotate_left
                        · simp only [Act.put, z1, z2, z3, i64_w, i32_w]
                          rfl
                        refine take_ (i := 7) (N := some 25) (v := ?_) (a' := ?_) b14_8 rfl rfl (take_ofW HT_.out HW_.out (by kernel_rfl)) (fun _ _ _ h => h) (Or.inl ⟨by rfl, ?_⟩) hHeld ?_ ?_
                        rotate_left
                        · rintro w' ⟨s0, s1, s2, s3, s4, s5, s6, s7, s8, s9⟩
                          go_simp
                          with_reducible rfl
                        rotate_left
                        · simp only [Act.put, z1, z2, z3, i64_w, i32_w]
                          rfl
                        refine one_ (i := 8) (N := some 26) b14_9 rfl rfl (one_of HT_.out (by kernel_rfl)) (by decide) (fun K hK => ?_)
                        refine goes_ Try.func22 (by kernel_rfl) rfl #[.agg #[.int .i64 ((rd_T34 x0_1 x5_2).f0), .int .i64 ((rd_T34 x0_1 x5_2).f1), .int .i64 ((rd_T34 x0_1 x5_2).f2), .int .i64 ((rd_T34 x0_1 x5_2).f3), .int .i64 ((rd_T34 x0_1 x5_2).f4)], .agg #[.int .i64 ((rd_T34 x0_1 x4_2).f0), .int .i64 ((rd_T34 x0_1 x4_2).f1), .int .i64 ((rd_T34 x0_1 x4_2).f2), .int .i64 ((rd_T34 x0_1 x4_2).f3), .int .i64 ((rd_T34 x0_1 x4_2).f4)]] (by rfl) rfl rfl sl_ ?_
                        with_reducible refine (timesyncref25_before.calls ((rd_T34 x0_1 x5_2).f0) ((rd_T34 x0_1 x5_2).f1) ((rd_T34 x0_1 x5_2).f2) ((rd_T34 x0_1 x5_2).f3) ((rd_T34 x0_1 x5_2).f4) ((rd_T34 x0_1 x4_2).f0) ((rd_T34 x0_1 x4_2).f1) ((rd_T34 x0_1 x4_2).f2) ((rd_T34 x0_1 x4_2).f3) ((rd_T34 x0_1 x4_2).f4) true _ A11.out).mono ?_
                        rintro e w14 ⟨rfl, hb⟩
                        have HS0_ := (hb.cell (World.block_lt_of_cell? _ _ (hHeld.1))).trans (hHeld.1)
                        have HS1_ := (hb.cell (World.block_lt_of_cell? _ _ (hHeld.2.1))).trans (hHeld.2.1)
                        have HS2_ := (hb.cell (World.block_lt_of_cell? _ _ (hHeld.2.2.1))).trans (hHeld.2.2.1)
                        have HS3_ := (hb.cell (World.block_lt_of_cell? _ _ (hHeld.2.2.2.1))).trans (hHeld.2.2.2.1)
                        have HS4_ := (hb.cell (World.block_lt_of_cell? _ _ (hHeld.2.2.2.2.1))).trans (hHeld.2.2.2.2.1)
                        have HS5_ := (hb.cell (World.block_lt_of_cell? _ _ (hHeld.2.2.2.2.2.1))).trans (hHeld.2.2.2.2.2.1)
                        have HS6_ := (hb.cell (World.block_lt_of_cell? _ _ (hHeld.2.2.2.2.2.2.1))).trans (hHeld.2.2.2.2.2.2.1)
                        have HS7_ := (hb.cell (World.block_lt_of_cell? _ _ (hHeld.2.2.2.2.2.2.2.1))).trans (hHeld.2.2.2.2.2.2.2.1)
                        have HS8_ := (hb.cell (World.block_lt_of_cell? _ _ (hHeld.2.2.2.2.2.2.2.2.1))).trans (hHeld.2.2.2.2.2.2.2.2.1)
                        have HS9_ := (hb.cell (World.block_lt_of_cell? _ _ (hHeld.2.2.2.2.2.2.2.2.2))).trans (hHeld.2.2.2.2.2.2.2.2.2)
                        refine ⟨_, rfl, ?_⟩
                        have n0_ := Aside0.mk (Kd.V_below (by (with_reducible repeat (first | apply Kd.V_alloc | apply Kd.V_drewN | apply Kd.V_drew)); exact HO_0.out) hb)
                        have n1_ := Aside0.mk (Kd.R_below (by (with_reducible repeat (first | apply Kd.R_alloc | apply Kd.R_drewN | apply Kd.R_drew)); exact HO_3.out) hb)
                        have n2_ := Aside0.mk (below_step hb_ hb)
                        clear HO_0
                        clear HO_3
                        clear HB
                        have HO_0 := n0_
                        have HO_3 := n1_
                        have HB := n2_
                        clear n0_ n1_ n2_
                        (try clear hb)
                        (try clear hb2)
                        (try clear hk)
                        (try clear hi)
                        refine hK.out _ _ ⟨HS0_, HS1_, HS2_, HS3_, HS4_, HS5_, HS6_, HS7_, HS8_, HS9_⟩ (fun hHeld => ?_)
                        clear hK K
                        refine norm_ (a' := ?_) ?_ ?_
                        rotate_left
                        · show Act.put _ (some 26) _ = _
                          simp only [Act.put, z1, z2, z3, i64_w, i32_w]
                          rfl
                        refine done_ (done_of HT_.out (by kernel_rfl)) ?_
                        try go_wp2
                        go_roundg k2
                        case measure => have := HK1.out; have := HK2.out; omega
                        case rel => exact ⟨(x5_2), (wrap64 (x5_2 + 1)), (by first | rfl | (simp; done) | (simp [*]; done)), (by first | rfl | (simp; done) | (simp [*]; done)), H', ⟨by have := HK1.out; have := HK2.out; omega⟩, ⟨by (with_reducible repeat (first | apply Kd.V_alloc | apply Kd.V_drewN | apply Kd.V_drew)); exact HO_0.out⟩, ⟨by (with_reducible repeat (first | apply Kd.R_alloc | apply Kd.R_drewN | apply Kd.R_drew)); exact HO_3.out⟩, ⟨hb_⟩⟩
                      · replace c12 := Bool.eq_false_iff.mpr c12
                        subst c12
                        have H1 : (timesyncref25_Order.l1 k2 x0_1 x3_1 x4_2 (wrap64 (x5_2 + 1))) = some r := by rw [if_neg (show ¬ (false = true) by decide)] at H; exact H
                        clear H
                        have H := H1
                        clear H1
                        have H' := Aside0.mk H
                        clear H
                        try go_wp2
                        have n0_ := Aside0.mk (Kd.V_drew HO_0.out)
                        have n1_ := Aside0.mk (Kd.R_drew HO_3.out)
                        have n2_ := Aside0.mk (below_drew1 HB.out)
                        clear HO_0
                        clear HO_3
                        clear HB
                        have HO_0 := n0_
                        have HO_3 := n1_
                        have HB := n2_
                        clear n0_ n1_ n2_
                        have p199 : 0 ≤ (x5_2 : Int) := of_decide_eq_true (by first | (with_reducible assumption) | assumption)
                        have q199 : x5_2 < (x0_1.length : Int) := of_decide_eq_true (by first | (with_reducible assumption) | assumption)
                        obtain ⟨ad199, e199, hx199_0, hx199_1, hx199_2, hx199_3, hx199_4⟩ := at_T34 (Kd.V_reads' HO_0.out).2.2 x5_2 p199 q199
                        cases e199
                        replace p199 := eq_true p199
                        replace q199 := eq_true q199
                        have p200 : 0 ≤ (x4_2 : Int) := of_decide_eq_true (by first | (with_reducible assumption) | assumption)
                        have q200 : x4_2 < (x0_1.length : Int) := of_decide_eq_true (by first | (with_reducible assumption) | assumption)
                        obtain ⟨ad200, e200, hx200_0, hx200_1, hx200_2, hx200_3, hx200_4⟩ := at_T34 (Kd.V_reads' HO_0.out).2.2 x4_2 p200 q200
                        obtain rfl : ad199 = ad200 := (by injection e200)
                        replace p200 := eq_true p200
                        replace q200 := eq_true q200
                        refine start_ (n := 9) (S := fun w' => w'.cell? (ad199.add ((x5_2).toNat * 5)) = some (.int .i64 ((rd_T34 x0_1 x5_2).f0)) ∧ w'.cell? ⟨(ad199.add ((x5_2).toNat * 5)).block, (ad199.add ((x5_2).toNat * 5)).off + 1, none⟩ = some (.int .i64 ((rd_T34 x0_1 x5_2).f1)) ∧ w'.cell? ⟨(ad199.add ((x5_2).toNat * 5)).block, (ad199.add ((x5_2).toNat * 5)).off + 2, none⟩ = some (.int .i64 ((rd_T34 x0_1 x5_2).f2)) ∧ w'.cell? ⟨(ad199.add ((x5_2).toNat * 5)).block, (ad199.add ((x5_2).toNat * 5)).off + 3, none⟩ = some (.int .i64 ((rd_T34 x0_1 x5_2).f3)) ∧ w'.cell? ⟨(ad199.add ((x5_2).toNat * 5)).block, (ad199.add ((x5_2).toNat * 5)).off + 4, none⟩ = some (.int .i64 ((rd_T34 x0_1 x5_2).f4)) ∧ w'.cell? (ad199.add ((x4_2).toNat * 5)) = some (.int .i64 ((rd_T34 x0_1 x4_2).f0)) ∧ w'.cell? ⟨(ad199.add ((x4_2).toNat * 5)).block, (ad199.add ((x4_2).toNat * 5)).off + 1, none⟩ = some (.int .i64 ((rd_T34 x0_1 x4_2).f1)) ∧ w'.cell? ⟨(ad199.add ((x4_2).toNat * 5)).block, (ad199.add ((x4_2).toNat * 5)).off + 2, none⟩ = some (.int .i64 ((rd_T34 x0_1 x4_2).f2)) ∧ w'.cell? ⟨(ad199.add ((x4_2).toNat * 5)).block, (ad199.add ((x4_2).toNat * 5)).off + 3, none⟩ = some (.int .i64 ((rd_T34 x0_1 x4_2).f3)) ∧ w'.cell? ⟨(ad199.add ((x4_2).toNat * 5)).block, (ad199.add ((x4_2).toNat * 5)).off + 4, none⟩ = some (.int .i64 ((rd_T34 x0_1 x4_2).f4))) (ds := []) b14_0 (by kernel_rfl) rfl rfl ⟨hx199_0, hx199_1, hx199_2, hx199_3, hx199_4, hx200_0, hx200_1, hx200_2, hx200_3, hx200_4⟩ (fun hHeld => ?_); refine with_tabW timesyncref25_Order.tab9 timesyncref25_Order.bits9 (fun HT_ HW_ => ?_)
                        generalize wr.drew = w15 at HO_0 HO_3 HB hx199_0 hx199_1 hx199_2 hx199_3 hx199_4 hx200_0 hx200_1 hx200_2 hx200_3 hx200_4 hHeld ⊢
                        refine pure_ (i := 0) (N := some 18) (v := ?_) (a' := ?_) b14_1 rfl rfl (any_of HT_.out (by kernel_rfl)) (fun _ _ _ h => h) (Or.inl ⟨by rfl, ?_⟩) ?_ ?_
                        rotate_left
                        · intro w'
                          go_simp
                          with_reducible rfl
                        rotate_left
                        · simp only [Act.put, z1, z2, z3, i64_w, i32_w]
                          rfl
                        refine pure_ (i := 1) (N := some 19) (v := ?_) (a' := ?_) b14_2 rfl rfl (any_of HT_.out (by kernel_rfl)) (fun _ _ _ h => h) (Or.inl ⟨by rfl, ?_⟩) ?_ ?_
                        rotate_left
                        · intro w'
                          go_simp
                          with_reducible rfl
                        rotate_left
                        · simp only [Act.put, z1, z2, z3, i64_w, i32_w]
                          rfl
                        refine pure_ (i := 2) (N := some 20) (v := ?_) (a' := ?_) b14_3 rfl rfl (any_of HT_.out (by kernel_rfl)) (fun _ _ _ h => h) (Or.inl ⟨by rfl, ?_⟩) ?_ ?_
                        rotate_left
                        · intro w'
                          go_simp
                          with_reducible rfl
                        rotate_left
                        · simp only [Act.put, z1, z2, z3, i64_w, i32_w]
                          rfl
                        refine pure_ (i := 4) (N := some 22) (v := ?_) (a' := ?_) b14_4 rfl rfl (any_of HT_.out (by kernel_rfl)) (fun _ _ _ h => h) (Or.inl ⟨by rfl, ?_⟩) ?_ ?_
                        rotate_left
                        · intro w'
                          go_simp
                          with_reducible rfl
                        rotate_left
                        · simp only [Act.put, z1, z2, z3, i64_w, i32_w]
                          rfl
                        refine pure_ (i := 5) (N := some 23) (v := ?_) (a' := ?_) b14_5 rfl rfl (any_of HT_.out (by kernel_rfl)) (fun _ _ _ h => h) (Or.inl ⟨by rfl, ?_⟩) ?_ ?_
                        rotate_left
                        · intro w'
                          go_simp
                          with_reducible rfl
                        rotate_left
                        · simp only [Act.put, z1, z2, z3, i64_w, i32_w]
                          rfl
                        refine pure_ (i := 6) (N := some 24) (v := ?_) (a' := ?_) b14_6 rfl rfl (any_of HT_.out (by kernel_rfl)) (fun _ _ _ h => h) (Or.inl ⟨by rfl, ?_⟩) ?_ ?_
                        rotate_left
                        · intro w'
                          go_simp
                          with_reducible rfl
                        rotate_left
                        · simp only [Act.put, z1, z2, z3, i64_w, i32_w]
                          rfl
                        refine take_ (i := 3) (N := some 21) (v := ?_) (a' := ?_) b14_7 rfl rfl (take_ofW HT_.out HW_.out (by kernel_rfl)) (fun _ _ _ h => h) (Or.inl ⟨by rfl, ?_⟩) hHeld ?_ ?_
                        rotate_left
                        · rintro w' ⟨s0, s1, s2, s3, s4, s5, s6, s7, s8, s9⟩
                          go_simp
                          with_reducible rfl
                        rotate_left
                        · simp only [Act.put, z1, z2, z3, i64_w, i32_w]
                          rfl
                        refine take_ (i := 7) (N := some 25) (v := ?_) (a' := ?_) b14_8 rfl rfl (take_ofW HT_.out HW_.out (by kernel_rfl)) (fun _ _ _ h => h) (Or.inl ⟨by rfl, ?_⟩) hHeld ?_ ?_
                        rotate_left
                        · rintro w' ⟨s0, s1, s2, s3, s4, s5, s6, s7, s8, s9⟩
                          go_simp
                          with_reducible rfl
                        rotate_left
                        · simp only [Act.put, z1, z2, z3, i64_w, i32_w]
                          rfl
                        refine one_ (i := 8) (N := some 26) b14_9 rfl rfl (one_of HT_.out (by kernel_rfl)) (by decide) (fun K hK => ?_)
                        refine goes_ Try.func22 (by kernel_rfl) rfl #[.agg #[.int .i64 ((rd_T34 x0_1 x5_2).f0), .int .i64 ((rd_T34 x0_1 x5_2).f1), .int .i64 ((rd_T34 x0_1 x5_2).f2), .int .i64 ((rd_T34 x0_1 x5_2).f3), .int .i64 ((rd_T34 x0_1 x5_2).f4)], .agg #[.int .i64 ((rd_T34 x0_1 x4_2).f0), .int .i64 ((rd_T34 x0_1 x4_2).f1), .int .i64 ((rd_T34 x0_1 x4_2).f2), .int .i64 ((rd_T34 x0_1 x4_2).f3), .int .i64 ((rd_T34 x0_1 x4_2).f4)]] (by rfl) rfl rfl sl_ ?_
                        with_reducible refine (timesyncref25_before.calls ((rd_T34 x0_1 x5_2).f0) ((rd_T34 x0_1 x5_2).f1) ((rd_T34 x0_1 x5_2).f2) ((rd_T34 x0_1 x5_2).f3) ((rd_T34 x0_1 x5_2).f4) ((rd_T34 x0_1 x4_2).f0) ((rd_T34 x0_1 x4_2).f1) ((rd_T34 x0_1 x4_2).f2) ((rd_T34 x0_1 x4_2).f3) ((rd_T34 x0_1 x4_2).f4) false _ A11.out).mono ?_
                        rintro e w16 ⟨rfl, hb⟩
                        have HS0_ := (hb.cell (World.block_lt_of_cell? _ _ (hHeld.1))).trans (hHeld.1)
                        have HS1_ := (hb.cell (World.block_lt_of_cell? _ _ (hHeld.2.1))).trans (hHeld.2.1)
                        have HS2_ := (hb.cell (World.block_lt_of_cell? _ _ (hHeld.2.2.1))).trans (hHeld.2.2.1)
                        have HS3_ := (hb.cell (World.block_lt_of_cell? _ _ (hHeld.2.2.2.1))).trans (hHeld.2.2.2.1)
                        have HS4_ := (hb.cell (World.block_lt_of_cell? _ _ (hHeld.2.2.2.2.1))).trans (hHeld.2.2.2.2.1)
                        have HS5_ := (hb.cell (World.block_lt_of_cell? _ _ (hHeld.2.2.2.2.2.1))).trans (hHeld.2.2.2.2.2.1)
                        have HS6_ := (hb.cell (World.block_lt_of_cell? _ _ (hHeld.2.2.2.2.2.2.1))).trans (hHeld.2.2.2.2.2.2.1)
                        have HS7_ := (hb.cell (World.block_lt_of_cell? _ _ (hHeld.2.2.2.2.2.2.2.1))).trans (hHeld.2.2.2.2.2.2.2.1)
                        have HS8_ := (hb.cell (World.block_lt_of_cell? _ _ (hHeld.2.2.2.2.2.2.2.2.1))).trans (hHeld.2.2.2.2.2.2.2.2.1)
                        have HS9_ := (hb.cell (World.block_lt_of_cell? _ _ (hHeld.2.2.2.2.2.2.2.2.2))).trans (hHeld.2.2.2.2.2.2.2.2.2)
                        refine ⟨_, rfl, ?_⟩
                        have n0_ := Aside0.mk (Kd.V_below (by (with_reducible repeat (first | apply Kd.V_alloc | apply Kd.V_drewN | apply Kd.V_drew)); exact HO_0.out) hb)
                        have n1_ := Aside0.mk (Kd.R_below (by (with_reducible repeat (first | apply Kd.R_alloc | apply Kd.R_drewN | apply Kd.R_drew)); exact HO_3.out) hb)
                        have n2_ := Aside0.mk (below_step hb_ hb)
                        clear HO_0
                        clear HO_3
                        clear HB
                        have HO_0 := n0_
                        have HO_3 := n1_
                        have HB := n2_
                        clear n0_ n1_ n2_
                        (try clear hb)
                        (try clear hb2)
                        (try clear hk)
                        (try clear hi)
                        refine hK.out _ _ ⟨HS0_, HS1_, HS2_, HS3_, HS4_, HS5_, HS6_, HS7_, HS8_, HS9_⟩ (fun hHeld => ?_)
                        clear hK K
                        refine norm_ (a' := ?_) ?_ ?_
                        rotate_left
                        · show Act.put _ (some 26) _ = _
                          simp only [Act.put, z1, z2, z3, i64_w, i32_w]
                          rfl
                        refine done_ (done_of HT_.out (by kernel_rfl)) ?_
                        try go_wp2
                        go_roundg k2
                        case measure => have := HK1.out; have := HK2.out; omega
                        case rel => exact ⟨(x4_2), (wrap64 (x5_2 + 1)), (by first | rfl | (simp; done) | (simp [*]; done)), (by first | rfl | (simp; done) | (simp [*]; done)), H', ⟨by have := HK1.out; have := HK2.out; omega⟩, ⟨by (with_reducible repeat (first | apply Kd.V_alloc | apply Kd.V_drewN | apply Kd.V_drew)); exact HO_0.out⟩, ⟨by (with_reducible repeat (first | apply Kd.R_alloc | apply Kd.R_drewN | apply Kd.R_drew)); exact HO_3.out⟩, ⟨hb_⟩⟩
                    · rw [if_neg c10] at H
                      exact absurd H (by simp)
                  · rw [if_neg c9] at H
                    exact absurd H (by simp)
                · rw [if_neg c8] at H
                  exact absurd H (by simp)
              · rw [if_neg c7] at H
                have c7b0 : decide (x5_2 < (x0_1.length : Int)) = false := decide_eq_false c7
                clear c7
                by_cases c17 : 0 ≤ x4_2
                · rw [if_pos c17] at H
                  have c17b0 : decide (0 ≤ x4_2) = true := decide_eq_true c17
                  clear c17
                  by_cases c18 : x4_2 < (x0_1.length : Int)
                  · rw [if_pos c18] at H
                    have c18b0 : decide (x4_2 < (x0_1.length : Int)) = true := decide_eq_true c18
                    clear c18
                    by_cases c19 : x3_1.length < 3518437208883
                    · rw [if_pos c19] at H
                      have LMc19 := Aside0.mk c19
                      clear c19
                      obtain ⟨y203, hy203⟩ : ∃ y_ : List (S34), y_ = (x3_1 ++ [(⟨(rd_T34 x0_1 x4_2).f0, (rd_T34 x0_1 x4_2).f1, (rd_T34 x0_1 x4_2).f2, (rd_T34 x0_1 x4_2).f3, (rd_T34 x0_1 x4_2).f4⟩ : S34)]) := ⟨_, rfl⟩
                      replace H : ((timesyncref25_without.f x0_1 x4_2).bind fun t206 => (timesyncref25_Order.l0 k2 t206 y203)) = some r := by first | (rw [hy203]; with_reducible exact H) | (have H2_ := (Option.bind_some _ _).symm.trans H; rw [hy203]; with_reducible exact H2_) | (have H2_ := (Option.bind_some _ _).symm.trans H; with_reducible exact H2_) | with_reducible exact H | (rw [hy203]; exact H) | exact H
                      have Ny203 := Aside0.mk hy203
                      clear hy203
                      replace H := Option.bind_eq_some_iff.mp H
                      obtain ⟨t206, A200, H⟩ := H
                      replace H : (timesyncref25_Order.l0 k2 t206 y203) = some r := H
                      have A20 := Aside0.mk A200
                      clear A200
                      have H' := Aside0.mk H
                      clear H
                      have p202 : 0 ≤ (x4_2 : Int) := of_decide_eq_true (by first | (with_reducible assumption) | assumption)
                      have q202 : x4_2 < (x0_1.length : Int) := of_decide_eq_true (by first | (with_reducible assumption) | assumption)
                      obtain ⟨ad202, e202, hx202_0, hx202_1, hx202_2, hx202_3, hx202_4⟩ := at_T34 (Kd.V_reads' HO_0.out).2.2 x4_2 p202 q202
                      cases e202
                      replace p202 := eq_true p202
                      replace q202 := eq_true q202
                      go_wp2_with (first | ((with_reducible refine gate_builtin (b := .append) (xs := #[.tmp 28, .tmp 33]) rfl ?_); at_builtin; refine Kd.R_append k34 (w0 := w) w.heap.size rfl (.tmp 28) (.tmp 33) 22 34 (.agg #[(.int .i64 0), (.int .i64 0), (.int .i64 0), (.int .i64 0), (.int .i64 0)]) 40 rfl Try.underlying22 info34 rfl (by decide) (by omega) u3 x3_1 (⟨(rd_T34 x0_1 x4_2).f0, (rd_T34 x0_1 x4_2).f1, (rd_T34 x0_1 x4_2).f2, (rd_T34 x0_1 x4_2).f3, (rd_T34 x0_1 x4_2).f4⟩ : S34) [.int .i64 ((rd_T34 x0_1 x4_2).f0), .int .i64 ((rd_T34 x0_1 x4_2).f1), .int .i64 ((rd_T34 x0_1 x4_2).f2), .int .i64 ((rd_T34 x0_1 x4_2).f3), .int .i64 ((rd_T34 x0_1 x4_2).f4)] (fun k_ => (w.heap.size ≤ k_)) (fun _ => False) rfl rfl ?aP (fun _ hk => hk.elim) ?aF ?aO ?aB ?aS ?aL ?_; (case aP => exact k34_mkM _ _ _ (⟨(rd_T34 x0_1 x4_2).f0, (rd_T34 x0_1 x4_2).f1, (rd_T34 x0_1 x4_2).f2, (rd_T34 x0_1 x4_2).f3, (rd_T34 x0_1 x4_2).f4⟩ : S34)); (case aB => exact hb_); (case aF => exact (fun k_ hk => (Nat.le_trans (below_size hb_) hk))); (case aO => exact (by (with_reducible repeat (first | apply Kd.R_alloc | apply Kd.R_drewN | apply Kd.R_drew)); exact HO_3.out)); (case aS => exact (below_size hb_)); (case aL => have := LMc19.out; omega); intro v204 w21 ho hb hg hat; rw [← Ny203.out] at ho; have n0_ := Aside0.mk (Kd.V_afterv (ok := (fun k_ => (P0_ k_ ∨ w.heap.size ≤ k_))) (by (with_reducible repeat (first | apply Kd.V_alloc | apply Kd.V_drewN | apply Kd.V_drew)); exact HO_0.out) hg hat); have n1_ := Aside0.mk (hb); have n2_ := Aside0.mk (ho); clear HO_0; clear HB; clear HO_3; have HO_0 := n0_; have HB := n1_; have HO205 := n2_; clear n0_ n1_ n2_; clear ho hb hg hat) | ((with_reducible refine gate_callee (f := 23) rfl ?_); refine goesL_ (some 37) rfl rfl Try.func23 (by kernel_rfl) rfl #[.slice (some ad202) x0_1.length co6, .int .i64 x4_2] rfl sl_ ?_; (with_reducible refine (timesyncref25_without.calls _ _ x0_1 x4_2 t206 _ ?side1 ?side2 A20.out).mono ?_); (case side1 => repeat (first | exact (Kd.V_reads' HO_0.out).2.2 | (with_reducible refine Kd.C_alloc ?_ _) | (with_reducible refine Kd.C_drewN ?_ _) | (with_reducible refine Kd.C_drew ?_))); (case side2 => exact (Kd.V_reads' HO_0.out).2.1); rintro e w22 ⟨v207, rfl, ho0, hb⟩; refine ⟨_, rfl, ?_⟩; have n0_ := Aside0.mk (Kd.V_elder' (by (with_reducible repeat (first | apply Kd.V_alloc | apply Kd.V_drewN | apply Kd.V_drew)); exact HO_0.out) (Kd.R_base ho0) hb); have n1_ := Aside0.mk (Kd.R_elder' (by (with_reducible repeat (first | apply Kd.R_alloc | apply Kd.R_drewN | apply Kd.R_drew)); exact HO205.out) (Kd.R_base ho0) hb); have n2_ := Aside0.mk (Kd.R_lower (Kd.R_new' (Kd.R_newM (M := fun k_ => (w.heap.size ≤ k_)) ho0 (below_size hb_) (fun k_ h_ => h_)) (Kd.R_lt (by (with_reducible repeat (first | apply Kd.R_alloc | apply Kd.R_drewN | apply Kd.R_drew)); exact HO205.out))) (below_size hb_)); have n3_ := Aside0.mk (below_step hb_ hb); clear HO_0; clear HO205; clear HB; have HO_0 := n0_; have HO205 := n1_; have HO208 := n2_; have HB := n3_; clear n0_ n1_ n2_ n3_; (try clear hb); (try clear hb2); (try clear hk); (try clear hi); (try clear ho0)))
                      go_roundg k2
                      case measure => have := HK1.out; have := HK2.out; omega
                      case rel => exact ⟨(t206), (y203), H', ⟨by have := HK1.out; have := HK2.out; omega⟩, ⟨Kd.V_mono (Kd.R_V (by (with_reducible repeat (first | apply Kd.R_alloc | apply Kd.R_drewN | apply Kd.R_drew)); exact HO208.out)) (fun k_ hk => by have h1_ := hk.1.1; have h2_ := hk.2; exact ⟨Or.inr h1_, h2_⟩)⟩, ⟨by (with_reducible repeat (first | apply Kd.R_alloc | apply Kd.R_drewN | apply Kd.R_drew)); exact Kd.R_mono HO205.out (fun _ hk => hk.1)⟩, ⟨hb_⟩⟩
                    · rw [if_neg c19] at H
                      exact absurd H (by simp)
                  · rw [if_neg c18] at H
                    exact absurd H (by simp)
                · rw [if_neg c17] at H
                  exact absurd H (by simp)
        · rw [if_neg c5] at H
          have c5b0 : decide (0 < (x0_1.length : Int)) = false := decide_eq_false c5
          have c5b1 : decide (0 < x0_1.length) = false := decide_eq_false (by omega)
          clear c5
          obtain rfl := Option.some.inj H
          obtain ⟨Ao23, co23, eo23⟩ := Kd.V_slice HO_0.out
          subst eo23
          go_wp2
          go_ret
          exact ⟨_, by first | rfl | (simp [errW_none, errW_some] <;> rfl) | (simp [*, errW_none, errW_some] <;> rfl), by (with_reducible repeat (first | apply Kd.R_alloc | apply Kd.R_drewN | apply Kd.R_drew)); exact HO_3.out, hb_⟩
  · rw [if_neg c3] at H
    have c3b0 : (t198 == 0) = false := beq_eq_false_iff_ne.mpr c3
    have c3b1 : (t198 != 0) = true := bne_iff_ne.mpr c3
    obtain rfl := Option.some.inj H
    go_enter Try.func14, Try.ntmps14
    go_wp2_with (first | ((with_reducible refine gate_callee (f := 21) rfl ?_); refine goesL_ (some 7) rfl rfl Try.func21 (by kernel_rfl) rfl #[.slice A0 l0.length c0] rfl sl_ ?_; (with_reducible refine (timesyncref24_Check.calls k _ _ l0 t198 _ ?side1 ?side2 A2.out).mono ?_); (case side1 => repeat (first | exact (Kd.V_reads' HO0.out).2.2 | (with_reducible refine Kd.C_alloc ?_ _) | (with_reducible refine Kd.C_drewN ?_ _) | (with_reducible refine Kd.C_drew ?_))); (case side2 => exact (Kd.V_reads' HO0.out).2.1); rintro e w24 ⟨rfl, hb⟩; refine ⟨_, rfl, ?_⟩; have n0_ := Aside0.mk (Kd.V_below (by (with_reducible repeat (first | apply Kd.V_alloc | apply Kd.V_drewN | apply Kd.V_drew)); exact HO0.out) hb); have n1_ := Aside0.mk (below_step hb_ hb); clear HO0; clear HB; have HO0 := n0_; have HB := n1_; clear n0_ n1_; (try clear hb); (try clear hb2); (try clear hk); (try clear hi)))
    go_ret
    exact ⟨_, by first | rfl | (simp [errW_none, errW_some] <;> rfl) | (simp [*, errW_none, errW_some] <;> rfl), by first | exact Kd.R_nil _ _ _ _ _ | exact Kd.N_nil _ _ _ _ _ | exact Kd.V_nil _ _ _ _ _ | exact Kd.Q_nil _ _ _ _ _ | exact Kd.S_nil _ _ _ _ _, hb_⟩

end Go.Proofs.Ytbcmfmlbagjdoaa.PAll
