-- A text of this session, written by a program of its own (wip/tools).
import Derived.Test.YtbcmfmlbagjdoaaPAllx0
import Derived.Test.YtbcmfmlbagjdoaaPAllx3
import Derived.Test.YtbcmfmlbagjdoaaPAllx24
import Derived.Test.YtbcmfmlbagjdoaaPAllx31
import Derived.Test.YtbcmfmlbagjdoaaPAllx33
namespace Go.Proofs.Ytbcmfmlbagjdoaa.PAll
open Go.RowKit Go.Proofs.YtbcmfmlbagjdoaaW.PrintWords Go.Proofs.YtbcmfmlbagjdoaaW.PrintLast Go.Proofs.YtbcmfmlbagjdoaaW.PrintMore
attribute [local go_sem] max2_int min2_int max_two min_two max_three min_three max_four min_four   -- for this text's walks alone
set_option linter.unusedVariables false
set_option linter.unusedSimpArgs false

/-! ### cluster_Prune: function 19 -/
mutual
def cluster_Prune.l0 : Nat → Int → List (S34) → Option ((List (S34)) × Int)
  | 0, _, _ => none
  | k + 1, x1, x7 => if (x7.length : Int) > x1 then (if 0 < (x7.length : Int) then (cluster_Prune.l1 k x1 x7 0 (-1) ((rd_T34 x7 0).f3) x7 (x7.length : Int) 0) else (none)) else (some (x7, 0))
def cluster_Prune.l1 : Nat → Int → List (S34) → Int → Int → Int → List (S34) → Int → Int → Option ((List (S34)) × Int)
  | 0, _, _, _, _, _, _, _, _ => none
  | k + 1, x1, x7, x8, x9, x10, x31, x32, x33 => if x33 < x32 then (if 0 ≤ x33 then (if x33 < (x31.length : Int) then ((cluster_spread.f x7 x33).bind fun t129 => (if t129 ≥ x9 then (cluster_Prune.l1 k x1 x7 x33 t129 (mn x10 ((rd_T34 x31 x33).f3)) x31 x32 (wrap64 (x33 + 1))) else (cluster_Prune.l1 k x1 x7 x8 x9 (mn x10 ((rd_T34 x31 x33).f3)) x31 x32 (wrap64 (x33 + 1))))) else (none)) else (none)) else (if x9 ≤ x10 then (some (x7, 0)) else ((api_Cand_26.f x7 x8 (wrap64 (x8 + 1))).bind fun t130 => (cluster_Prune.l0 k x1 t130)))
end
def cluster_Prune.f (k : Nat) (l0 : List (S34)) (a1 : Int) : Option ((List (S34)) × Int) := (choose_Check.f k l0).bind fun t122 => (if t122 = 0 then (if a1 < 1 then (some (([] : List (S34)), 3)) else ((cluster_ordered.f l0).bind fun t123 => (cluster_Prune.l0 k a1 t123))) else (some (([] : List (S34)), t122)))
theorem cluster_Prune.mono_l : ∀ k, (∀ y0 y1, LeO (cluster_Prune.l0 k y0 y1) (cluster_Prune.l0 (k + 1) y0 y1)) ∧ (∀ y0 y1 y2 y3 y4 y5 y6 y7, LeO (cluster_Prune.l1 k y0 y1 y2 y3 y4 y5 y6 y7) (cluster_Prune.l1 (k + 1) y0 y1 y2 y3 y4 y5 y6 y7))
  | 0 => ⟨fun _ _ r h => by simp [cluster_Prune.l0] at h, fun _ _ _ _ _ _ _ _ r h => by simp [cluster_Prune.l1] at h⟩
  | k + 1 => by
    obtain ⟨ih0, ih1⟩ := cluster_Prune.mono_l k
    refine ⟨?_, ?_⟩
    · intro y0 y1
      unfold cluster_Prune.l0
      repeat' first
      | (with_reducible exact ih0 _ _)
      | (with_reducible exact ih1 _ _ _ _ _ _ _ _)
      | (with_reducible exact choose_Check.mono _ _)
      | (with_reducible exact LeO.refl _)
      | (with_reducible exact LeO.none _)
      | (with_reducible refine LeO.ite ?_ ?_)
      | (with_reducible refine LeO.bind ?_ (fun _ => ?_))
      | exact ih0 _ _
      | exact ih1 _ _ _ _ _ _ _ _
      | exact choose_Check.mono _ _
      | exact LeO.none _
      | refine LeO.ite ?_ ?_
      | refine LeO.bind ?_ (fun _ => ?_)
    · intro y0 y1 y2 y3 y4 y5 y6 y7
      unfold cluster_Prune.l1
      repeat' first
      | (with_reducible exact ih0 _ _)
      | (with_reducible exact ih1 _ _ _ _ _ _ _ _)
      | (with_reducible exact choose_Check.mono _ _)
      | (with_reducible exact LeO.refl _)
      | (with_reducible exact LeO.none _)
      | (with_reducible refine LeO.ite ?_ ?_)
      | (with_reducible refine LeO.bind ?_ (fun _ => ?_))
      | exact ih0 _ _
      | exact ih1 _ _ _ _ _ _ _ _
      | exact choose_Check.mono _ _
      | exact LeO.none _
      | refine LeO.ite ?_ ?_
      | refine LeO.bind ?_ (fun _ => ?_)
theorem cluster_Prune.mono : ∀ a0 a1 k, LeO (cluster_Prune.f k a0 a1) (cluster_Prune.f (k + 1) a0 a1) := by
  intro a0 a1 k
  obtain ⟨ih0, ih1⟩ := cluster_Prune.mono_l k
  unfold cluster_Prune.f
  repeat' first
      | (with_reducible exact ih0 _ _)
      | (with_reducible exact ih1 _ _ _ _ _ _ _ _)
      | (with_reducible exact choose_Check.mono _ _)
      | (with_reducible exact LeO.refl _)
      | (with_reducible exact LeO.none _)
      | (with_reducible refine LeO.ite ?_ ?_)
      | (with_reducible refine LeO.bind ?_ (fun _ => ?_))
      | exact ih0 _ _
      | exact ih1 _ _ _ _ _ _ _ _
      | exact choose_Check.mono _ _
      | exact LeO.none _
      | refine LeO.ite ?_ ?_
      | refine LeO.bind ?_ (fun _ => ?_)
set_option maxHeartbeats 8000000 in
set_option maxRecDepth 100000 in
theorem cluster_Prune.calls (k : Nat) (A0 : Option Addr) (c0 : Nat) (l0 : List (S34)) (a1 : Int) (r1 : List (S34)) (r2 : Int) (w : World) (hr0 : Kd.C k34 w A0 l0.length l0) (hc0 : l0.length ≤ c0) (h : cluster_Prune.f k l0 a1 = some (r1, r2)) :
    Calls Try.prog 19 #[.slice A0 l0.length c0, .int .i64 a1] w fun e w' => ∃ v0_ : Value, e = .returned (.tuple #[v0_, .int .i64 r2]) ∧ Kd.R k34 34 w' w.heap.size (fun _ => True) v0_ r1 ∧ Below w.heap.size w w' := by
  have hu34 := Try.underlying34
  have HR0 := Aside0.mk hr0
  have HC0 := Aside0.mk hc0
  clear hr0 hc0
  have HB := Aside0.mk (Below.refl w.heap.size w)
  have H : ((choose_Check.f k l0).bind fun t122 => (if t122 = 0 then (if a1 < 1 then (some (([] : List (S34)), 3)) else ((cluster_ordered.f l0).bind fun t123 => (cluster_Prune.l0 k a1 t123))) else (some (([] : List (S34)), t122)))) = some (r1, r2) := h
  clear h
  replace H := Option.bind_eq_some_iff.mp H
  obtain ⟨t122, A30, H⟩ := H
  replace H : (if t122 = 0 then (if a1 < 1 then (some (([] : List (S34)), 3)) else ((cluster_ordered.f l0).bind fun t123 => (cluster_Prune.l0 k a1 t123))) else (some (([] : List (S34)), t122))) = some (r1, r2) := H
  have A3 := Aside0.mk A30
  clear A30
  by_cases c4 : t122 = 0
  · rw [if_pos c4] at H
    have c4b0 : (t122 == 0) = true := beq_iff_eq.mpr c4
    have c4b1 : (t122 != 0) = false := bne_eq_false_iff_eq.mpr c4
    clear c4
    by_cases c5 : a1 < 1
    · rw [if_pos c5] at H
      have c5b0 : decide (a1 < 1) = true := decide_eq_true c5
      clear c5
      simp only [Option.some.injEq, Prod.mk.injEq] at H
      obtain ⟨rfl, rfl⟩ := H
      go_enter Try.func19, Try.ntmps19
      go_wp2_with (first | ((with_reducible refine gate_callee (f := 17) rfl ?_); refine goesL_ (some 15) rfl rfl Try.func17 (by kernel_rfl) rfl #[.slice A0 l0.length c0] rfl sl_ ?_; (with_reducible refine (choose_Check.calls k _ _ l0 t122 _ ?side1 ?side2 A3.out).mono ?_); (case side1 => repeat (first | exact HR0.out | (with_reducible refine Kd.C_alloc ?_ _) | (with_reducible refine Kd.C_drewN ?_ _) | (with_reducible refine Kd.C_drew ?_))); (case side2 => exact HC0.out); rintro e w6 ⟨rfl, hb⟩; refine ⟨_, rfl, ?_⟩; have n0_ := Aside0.mk (below_step hb_ hb); clear HB; have HB := n0_; clear n0_; (try clear hb); (try clear hb2); (try clear hk); (try clear hi)))
      go_ret2
      exact ⟨_, by first | rfl | (simp [errW_none, errW_some] <;> rfl) | (simp [*, errW_none, errW_some] <;> rfl), by first | exact Kd.R_nil _ _ _ _ _ | exact Kd.N_nil _ _ _ _ _ | exact Kd.V_nil _ _ _ _ _ | exact Kd.Q_nil _ _ _ _ _ | exact Kd.S_nil _ _ _ _ _, hb_⟩
    · rw [if_neg c5] at H
      have c5b0 : decide (a1 < 1) = false := decide_eq_false c5
      clear c5
      replace H := Option.bind_eq_some_iff.mp H
      obtain ⟨t123, A70, H⟩ := H
      replace H : (cluster_Prune.l0 k a1 t123) = some (r1, r2) := H
      have A7 := Aside0.mk A70
      clear A70
      have H' := Aside0.mk H
      clear H
      go_enter Try.func19, Try.ntmps19
      go_wp2_with (first | ((with_reducible refine gate_callee (f := 17) rfl ?_); refine goesL_ (some 15) rfl rfl Try.func17 (by kernel_rfl) rfl #[.slice A0 l0.length c0] rfl sl_ ?_; (with_reducible refine (choose_Check.calls k _ _ l0 t122 _ ?side1 ?side2 A3.out).mono ?_); (case side1 => repeat (first | exact HR0.out | (with_reducible refine Kd.C_alloc ?_ _) | (with_reducible refine Kd.C_drewN ?_ _) | (with_reducible refine Kd.C_drew ?_))); (case side2 => exact HC0.out); rintro e w8 ⟨rfl, hb⟩; refine ⟨_, rfl, ?_⟩; have n0_ := Aside0.mk (below_step hb_ hb); clear HB; have HB := n0_; clear n0_; (try clear hb); (try clear hb2); (try clear hk); (try clear hi)) | ((with_reducible refine gate_callee (f := 20) rfl ?_); refine goesL_ (some 22) rfl rfl Try.func20 (by kernel_rfl) rfl #[.slice A0 l0.length c0] rfl sl_ ?_; (with_reducible refine (cluster_ordered.calls _ _ l0 t123 _ ?side1 ?side2 A7.out).mono ?_); (case side1 => repeat (first | exact (Kd.C_below HR0.out HB.out) | (with_reducible refine Kd.C_alloc ?_ _) | (with_reducible refine Kd.C_drewN ?_ _) | (with_reducible refine Kd.C_drew ?_))); (case side2 => exact HC0.out); rintro e w9 ⟨v124, rfl, ho0, hb⟩; refine ⟨_, rfl, ?_⟩; have n0_ := Aside0.mk (Kd.R_lower ho0 (below_size hb_)); have n1_ := Aside0.mk (below_step hb_ hb); clear HB; have HO125 := n0_; have HB := n1_; clear n0_ n1_; (try clear hb); (try clear hb2); (try clear hk); (try clear hi); (try clear ho0)))
      go_loopg [7] k (fun kq v7 w' => ∃ (x7_1 : List (S34)), Aside0 (cluster_Prune.l0 kq a1 x7_1 = some (r1, r2)) ∧ Aside0 (kq ≤ k) ∧ Aside0 (Kd.R k34 34 w' w.heap.size (fun _ => True) v7 x7_1) ∧ Aside0 (Below w.heap.size w w'))
      case atStart => exact ⟨(t123), H', ⟨Nat.le_refl _⟩, ⟨by (with_reducible repeat (first | apply Kd.R_alloc | apply Kd.R_drewN | apply Kd.R_drew)); exact HO125.out⟩, ⟨hb_⟩⟩
      case round =>
        clear H'
        try clear c1
        try clear c2
        try clear p2
        try clear c4
        try clear c4b0
        try clear c4b1
        try clear c5
        try clear c5b0
        obtain ⟨x7_1, HA, HK1, HO_7, HB⟩ := hrel
        cases gk with
        | zero => exact absurd HA.out (by simp [cluster_Prune.l0])
        | succ k1 =>
          have H := HA.out
          clear HA
          simp only [cluster_Prune.l0] at H
          by_cases c10 : (x7_1.length : Int) > a1
          · rw [if_pos c10] at H
            have c10b0 : decide (a1 < (x7_1.length : Int)) = true := decide_eq_true c10
            clear c10
            by_cases c11 : 0 < (x7_1.length : Int)
            · rw [if_pos c11] at H
              have c11b0 : decide (0 < (x7_1.length : Int)) = true := decide_eq_true c11
              have c11b1 : decide (0 < x7_1.length) = true := decide_eq_true (by omega)
              clear c11
              have H' := Aside0.mk H
              clear H
              obtain ⟨Ao12, co12, eo12⟩ := Kd.R_slice HO_7.out
              subst eo12
              have p126 : 0 ≤ (0 : Int) := (by omega)
              have q126 : 0 < (x7_1.length : Int) := of_decide_eq_true (by first | (with_reducible assumption) | assumption)
              obtain ⟨ad126, e126, hx126_0, hx126_1, hx126_2, hx126_3, hx126_4⟩ := at_T34 (Kd.R_reads' HO_7.out).2.2 0 p126 q126
              cases e126
              have qi126 : (0 < x7_1.length) = True := eq_true (by omega)
              (try rw [show ((0 : Int)).toNat = 0 from rfl] at hx126_0)
              (try rw [show 0 * 5 = 0 from rfl] at hx126_0)
              (try rw [Addr.add_zero'] at hx126_0)
              (try rw [show ((0 : Int)).toNat = 0 from rfl] at hx126_1)
              (try rw [show 0 * 5 = 0 from rfl] at hx126_1)
              (try rw [Addr.add_zero'] at hx126_1)
              (try rw [show ((0 : Int)).toNat = 0 from rfl] at hx126_2)
              (try rw [show 0 * 5 = 0 from rfl] at hx126_2)
              (try rw [Addr.add_zero'] at hx126_2)
              (try rw [show ((0 : Int)).toNat = 0 from rfl] at hx126_3)
              (try rw [show 0 * 5 = 0 from rfl] at hx126_3)
              (try rw [Addr.add_zero'] at hx126_3)
              (try rw [show ((0 : Int)).toNat = 0 from rfl] at hx126_4)
              (try rw [show 0 * 5 = 0 from rfl] at hx126_4)
              (try rw [Addr.add_zero'] at hx126_4)
              replace p126 := eq_true p126
              replace q126 := eq_true q126
              go_wp2
              go_loopg [8, 9, 10, 33] k1 (fun kq v8 v9 v10 v33 w' => ∃ (x8_2 : Int) (x9_2 : Int) (x10_2 : Int) (x33_2 : Int), v8 = .int .i64 x8_2 ∧ v9 = .int .i64 x9_2 ∧ v10 = .int .i64 x10_2 ∧ v33 = .int .i64 x33_2 ∧ Aside0 (cluster_Prune.l1 kq a1 x7_1 x8_2 x9_2 x10_2 x7_1 (x7_1.length : Int) x33_2 = some (r1, r2)) ∧ Aside0 (kq ≤ k1) ∧ Aside0 (Kd.R k34 34 w' w.heap.size (fun _ => True) (.slice (some ad126) x7_1.length co12) x7_1) ∧ Aside0 (Kd.R k34 34 w' w.heap.size (fun _ => True) (.slice (some ad126) x7_1.length co12) x7_1) ∧ Aside0 (Below w.heap.size w w'))
              case atStart => exact ⟨(0), ((-1)), ((rd_T34 x7_1 0).f3), (0), (by first | rfl | (simp; done) | (simp [*]; done)), (by first | rfl | (simp; done) | (simp [*]; done)), (by first | rfl | (simp; done) | (simp [*]; done)), (by first | rfl | (simp; done) | (simp [*]; done)), H', ⟨Nat.le_refl _⟩, ⟨by (with_reducible repeat (first | apply Kd.R_alloc | apply Kd.R_drewN | apply Kd.R_drew)); exact HO_7.out⟩, ⟨by (with_reducible repeat (first | apply Kd.R_alloc | apply Kd.R_drewN | apply Kd.R_drew)); exact HO_7.out⟩, ⟨hb_⟩⟩
              case round =>
                clear H'
                try clear c1
                try clear p1
                try clear q1
                try clear hx1
                try clear qi1
                try clear c2
                try clear p2
                try clear c4
                try clear c4b0
                try clear c4b1
                try clear c5
                try clear c5b0
                try clear c10
                try clear c10b0
                try clear c11
                try clear c11b0
                try clear c11b1
                try clear p12
                try clear q12
                try clear hx12
                try clear qi12
                try clear hx126_0
                try clear hx126_1
                try clear hx126_2
                try clear hx126_3
                try clear hx126_4
                try clear p126
                try clear p2
                try clear q126
                obtain ⟨x8_2, x9_2, x10_2, x33_2, rfl, rfl, rfl, rfl, HA, HK2, HO_7, HO_31, HB⟩ := hrel
                cases gk with
                | zero => exact absurd HA.out (by simp [cluster_Prune.l1])
                | succ k2 =>
                  have H := HA.out
                  clear HA
                  simp only [cluster_Prune.l1] at H
                  by_cases c13 : x33_2 < (x7_1.length : Int)
                  · rw [if_pos c13] at H
                    have c13b0 : decide (x33_2 < (x7_1.length : Int)) = true := decide_eq_true c13
                    clear c13
                    by_cases c14 : 0 ≤ x33_2
                    · rw [if_pos c14] at H
                      have c14b0 : decide (0 ≤ x33_2) = true := decide_eq_true c14
                      clear c14
                      by_cases c15 : x33_2 < (x7_1.length : Int)
                      · rw [if_pos c15] at H
                        have c15b0 : decide (x33_2 < (x7_1.length : Int)) = true := decide_eq_true c15
                        clear c15
                        replace H := Option.bind_eq_some_iff.mp H
                        obtain ⟨t129, A160, H⟩ := H
                        replace H : (if t129 ≥ x9_2 then (cluster_Prune.l1 k2 a1 x7_1 x33_2 t129 (mn x10_2 ((rd_T34 x7_1 x33_2).f3)) x7_1 (x7_1.length : Int) (wrap64 (x33_2 + 1))) else (cluster_Prune.l1 k2 a1 x7_1 x8_2 x9_2 (mn x10_2 ((rd_T34 x7_1 x33_2).f3)) x7_1 (x7_1.length : Int) (wrap64 (x33_2 + 1)))) = some (r1, r2) := H
                        have A16 := Aside0.mk A160
                        clear A160
                        by_cases c17 : t129 ≥ x9_2
                        · rw [if_pos c17] at H
                          have c17b0 : decide (x9_2 ≤ t129) = true := decide_eq_true c17
                          clear c17
                          obtain ⟨ji18, hji18⟩ : ∃ j_ : Int, (mn x10_2 ((rd_T34 x7_1 x33_2).f3)) = j_ := ⟨_, rfl⟩
                          replace H : (cluster_Prune.l1 k2 a1 x7_1 x33_2 t129 ji18 x7_1 (x7_1.length : Int) (wrap64 (x33_2 + 1))) = some (r1, r2) := by first | (rw [hji18] at H; exact H) | (simp only [hji18] at H ⊢; exact H)
                          (try rw [hji18] at A16)
                          have hji18_ : (if ((rd_T34 x7_1 x33_2).f3) < x10_2 then ((rd_T34 x7_1 x33_2).f3) else x10_2) = ji18 := hji18
                          have H' := Aside0.mk H
                          clear H
                          have p127 : 0 ≤ (x33_2 : Int) := of_decide_eq_true (by first | (with_reducible assumption) | assumption)
                          have q127 : x33_2 < (x7_1.length : Int) := of_decide_eq_true (by first | (with_reducible assumption) | assumption)
                          obtain ⟨ad127, e127, hx127_0, hx127_1, hx127_2, hx127_3, hx127_4⟩ := at_T34 (Kd.R_reads' HO_31.out).2.2 x33_2 p127 q127
                          obtain rfl : ad126 = ad127 := (by injection e127)
                          replace p127 := eq_true p127
                          replace q127 := eq_true q127
                          go_wp2_with (first | ((with_reducible refine gate_dst (N := 12) rfl ?_); refine box_event ?hg (N := 12) ?hd (cs := #[.int .i64 0, .int .i64 0, .int .i64 0, .int .i64 0, .int .i64 0]) (t := 34) ?hr ?_; (case hd => rfl); (case hg => rfl); (case hr => first | (go_simp; done) | (go_simp; rfl)); intro gb128 hg w19 hbox hb; have n0_ := Aside0.mk (Kd.R_below (Kd.R_elderB (by (with_reducible repeat (first | apply Kd.R_alloc | apply Kd.R_drewN | apply Kd.R_drew)); exact HO_7.out) gb128 (Nat.le_of_eq hg.symm)) hb); have n1_ := Aside0.mk (Kd.R_below (Kd.R_elderB (by (with_reducible repeat (first | apply Kd.R_alloc | apply Kd.R_drewN | apply Kd.R_drew)); exact HO_31.out) gb128 (Nat.le_of_eq hg.symm)) hb); have n2_ := Aside0.mk (below_step hb_ hb); have n3_ := Aside0.mk (hbox); have n4_ := Aside0.mk ((by rw [hg]; exact (below_size hb_) : w.heap.size ≤ gb128)); have n5_ := Aside0.mk ((by rw [hg]; exact (below_size hb_) : w.heap.size ≤ gb128)); clear HO_7; clear HO_31; clear HB; have HO_7 := n0_; have HO_31 := n1_; have HB := n2_; have BK128 := n3_; have GW128 := n4_; have GE128 := n5_; clear n0_ n1_ n2_ n3_ n4_ n5_; clear hb hbox hg; obtain ⟨hcz20_0, hcz20_1, hcz20_2, hcz20_3, hcz20_4⟩ := cs5 BK128.out; obtain ⟨hfz20_0, hfz20_1, hfz20_2, hfz20_3, hfz20_4⟩ := fs5 BK128.out) | ((with_reducible refine gate_callee (f := 24) rfl ?_); refine goesL_ (some 40) rfl rfl Try.func24 (by kernel_rfl) rfl #[.slice (some ad126) x7_1.length co12, .int .i64 x33_2] rfl sl_ ?_; (with_reducible refine (cluster_spread.calls _ _ x7_1 x33_2 t129 _ ?side1 ?side2 A16.out).mono ?_); (case side1 => refine (Kd.R_reads' (e := 34) (base := w.heap.size) (ok := fun k_ => (True ∧ k_ ≠ gb128)) (n := x7_1.length) (c := co12) ?_).2.2; exact (by (with_reducible repeat (first | apply Kd.R_alloc | apply Kd.R_drewN | apply Kd.R_drew)); exact (Kd.R_mono (Kd.R_far (p := ⟨gb128, 4, none⟩) (Kd.R_far (p := ⟨gb128, 3, none⟩) (Kd.R_far (p := ⟨gb128, 2, none⟩) (Kd.R_far (p := ⟨gb128, 1, none⟩) (Kd.R_far (p := ⟨gb128, 0, none⟩) (Kd.R_mono HO_7.out (fun k_ hk => (⟨hk, hk.2⟩ : _ ∧ k_ ≠ gb128))) (fun _ hk => hk.2) (.int .i64 ((rd_T34 x7_1 x33_2).f0))) (fun _ hk => hk.2) (.int .i64 ((rd_T34 x7_1 x33_2).f1))) (fun _ hk => hk.2) (.int .i64 ((rd_T34 x7_1 x33_2).f2))) (fun _ hk => hk.2) (.int .i64 ((rd_T34 x7_1 x33_2).f3))) (fun _ hk => hk.2) (.int .i64 ((rd_T34 x7_1 x33_2).f4))) (fun _ h_ => h_.1)))); (case side2 => exact (Kd.R_reads' HO_7.out).2.1); rintro e w21 ⟨rfl, hb⟩; refine ⟨_, rfl, ?_⟩; have n0_ := Aside0.mk (Kd.R_below (by (with_reducible repeat (first | apply Kd.R_alloc | apply Kd.R_drewN | apply Kd.R_drew)); exact (Kd.R_mono (Kd.R_far (p := ⟨gb128, 4, none⟩) (Kd.R_far (p := ⟨gb128, 3, none⟩) (Kd.R_far (p := ⟨gb128, 2, none⟩) (Kd.R_far (p := ⟨gb128, 1, none⟩) (Kd.R_far (p := ⟨gb128, 0, none⟩) (Kd.R_mono HO_7.out (fun k_ hk => (⟨hk, hk.2⟩ : _ ∧ k_ ≠ gb128))) (fun _ hk => hk.2) (.int .i64 ((rd_T34 x7_1 x33_2).f0))) (fun _ hk => hk.2) (.int .i64 ((rd_T34 x7_1 x33_2).f1))) (fun _ hk => hk.2) (.int .i64 ((rd_T34 x7_1 x33_2).f2))) (fun _ hk => hk.2) (.int .i64 ((rd_T34 x7_1 x33_2).f3))) (fun _ hk => hk.2) (.int .i64 ((rd_T34 x7_1 x33_2).f4))) (fun _ h_ => h_.1))) hb); have n1_ := Aside0.mk (Kd.R_below (by (with_reducible repeat (first | apply Kd.R_alloc | apply Kd.R_drewN | apply Kd.R_drew)); exact (Kd.R_mono (Kd.R_far (p := ⟨gb128, 4, none⟩) (Kd.R_far (p := ⟨gb128, 3, none⟩) (Kd.R_far (p := ⟨gb128, 2, none⟩) (Kd.R_far (p := ⟨gb128, 1, none⟩) (Kd.R_far (p := ⟨gb128, 0, none⟩) (Kd.R_mono HO_31.out (fun k_ hk => (⟨hk, hk.2⟩ : _ ∧ k_ ≠ gb128))) (fun _ hk => hk.2) (.int .i64 ((rd_T34 x7_1 x33_2).f0))) (fun _ hk => hk.2) (.int .i64 ((rd_T34 x7_1 x33_2).f1))) (fun _ hk => hk.2) (.int .i64 ((rd_T34 x7_1 x33_2).f2))) (fun _ hk => hk.2) (.int .i64 ((rd_T34 x7_1 x33_2).f3))) (fun _ hk => hk.2) (.int .i64 ((rd_T34 x7_1 x33_2).f4))) (fun _ h_ => h_.1))) hb); have n2_ := Aside0.mk (blk_below (g := gb128) (o := .cells #[.int .i64 ((rd_T34 x7_1 x33_2).f0), .int .i64 ((rd_T34 x7_1 x33_2).f1), .int .i64 ((rd_T34 x7_1 x33_2).f2), .int .i64 ((rd_T34 x7_1 x33_2).f3), .int .i64 ((rd_T34 x7_1 x33_2).f4)] 34 (0, 0)) (by (with_reducible repeat (first | refine blk_drewN ?_ _ | refine blk_drew ?_ | refine blk_alloc ?_ _)); refine blk_put (cs := #[.int .i64 ((rd_T34 x7_1 x33_2).f0), .int .i64 ((rd_T34 x7_1 x33_2).f1), .int .i64 ((rd_T34 x7_1 x33_2).f2), .int .i64 ((rd_T34 x7_1 x33_2).f3), .int .i64 0]) ?_ 4 _ rfl; (with_reducible repeat (first | refine blk_drewN ?_ _ | refine blk_drew ?_ | refine blk_alloc ?_ _)); refine blk_put (cs := #[.int .i64 ((rd_T34 x7_1 x33_2).f0), .int .i64 ((rd_T34 x7_1 x33_2).f1), .int .i64 ((rd_T34 x7_1 x33_2).f2), .int .i64 0, .int .i64 0]) ?_ 3 _ rfl; (with_reducible repeat (first | refine blk_drewN ?_ _ | refine blk_drew ?_ | refine blk_alloc ?_ _)); refine blk_put (cs := #[.int .i64 ((rd_T34 x7_1 x33_2).f0), .int .i64 ((rd_T34 x7_1 x33_2).f1), .int .i64 0, .int .i64 0, .int .i64 0]) ?_ 2 _ rfl; (with_reducible repeat (first | refine blk_drewN ?_ _ | refine blk_drew ?_ | refine blk_alloc ?_ _)); refine blk_put (cs := #[.int .i64 ((rd_T34 x7_1 x33_2).f0), .int .i64 0, .int .i64 0, .int .i64 0, .int .i64 0]) ?_ 1 _ rfl; (with_reducible repeat (first | refine blk_drewN ?_ _ | refine blk_drew ?_ | refine blk_alloc ?_ _)); refine blk_put (cs := #[.int .i64 0, .int .i64 0, .int .i64 0, .int .i64 0, .int .i64 0]) ?_ 0 _ rfl; (with_reducible repeat (first | refine blk_drewN ?_ _ | refine blk_drew ?_ | refine blk_alloc ?_ _)); exact BK128.out) hb); have n3_ := Aside0.mk (below_step hb_ hb); clear HO_7; clear HO_31; clear BK128; clear HB; have HO_7 := n0_; have HO_31 := n1_; have BK128 := n2_; have HB := n3_; clear n0_ n1_ n2_ n3_; (try clear hb); (try clear hb2); (try clear hk); (try clear hi); obtain ⟨hcz22_0, hcz22_1, hcz22_2, hcz22_3, hcz22_4⟩ := cs5 BK128.out; obtain ⟨hfz22_0, hfz22_1, hfz22_2, hfz22_3, hfz22_4⟩ := fs5 BK128.out))
                          go_roundg k2
                          case measure => have := HK1.out; have := HK2.out; omega
                          case rel => exact ⟨(x33_2), (t129), (ji18), (wrap64 (x33_2 + 1)), (by first | rfl | (simp; done) | (simp [*]; done)), (by first | rfl | (simp; done) | (simp [*]; done)), (by first | rfl | (simp; done) | (simp only [← hji18] <;> (first | rfl | simp)) | (simp [*]; done)), (by first | rfl | (simp; done) | (simp [*]; done)), H', ⟨by have := HK1.out; have := HK2.out; omega⟩, ⟨by (with_reducible repeat (first | apply Kd.R_alloc | apply Kd.R_drewN | apply Kd.R_drew)); exact Kd.R_mono HO_7.out (fun _ hk => trivial)⟩, ⟨by (with_reducible repeat (first | apply Kd.R_alloc | apply Kd.R_drewN | apply Kd.R_drew)); exact Kd.R_mono HO_31.out (fun _ hk => trivial)⟩, ⟨hb_⟩⟩
                        · rw [if_neg c17] at H
                          have c17b0 : decide (x9_2 ≤ t129) = false := decide_eq_false c17
                          clear c17
                          obtain ⟨ji23, hji23⟩ : ∃ j_ : Int, (mn x10_2 ((rd_T34 x7_1 x33_2).f3)) = j_ := ⟨_, rfl⟩
                          replace H : (cluster_Prune.l1 k2 a1 x7_1 x8_2 x9_2 ji23 x7_1 (x7_1.length : Int) (wrap64 (x33_2 + 1))) = some (r1, r2) := by first | (rw [hji23] at H; exact H) | (simp only [hji23] at H ⊢; exact H)
                          (try rw [hji23] at A16)
                          have hji23_ : (if ((rd_T34 x7_1 x33_2).f3) < x10_2 then ((rd_T34 x7_1 x33_2).f3) else x10_2) = ji23 := hji23
                          have H' := Aside0.mk H
                          clear H
                          have p127 : 0 ≤ (x33_2 : Int) := of_decide_eq_true (by first | (with_reducible assumption) | assumption)
                          have q127 : x33_2 < (x7_1.length : Int) := of_decide_eq_true (by first | (with_reducible assumption) | assumption)
                          obtain ⟨ad127, e127, hx127_0, hx127_1, hx127_2, hx127_3, hx127_4⟩ := at_T34 (Kd.R_reads' HO_31.out).2.2 x33_2 p127 q127
                          obtain rfl : ad126 = ad127 := (by injection e127)
                          replace p127 := eq_true p127
                          replace q127 := eq_true q127
                          go_wp2_with (first | ((with_reducible refine gate_dst (N := 12) rfl ?_); refine box_event ?hg (N := 12) ?hd (cs := #[.int .i64 0, .int .i64 0, .int .i64 0, .int .i64 0, .int .i64 0]) (t := 34) ?hr ?_; (case hd => rfl); (case hg => rfl); (case hr => first | (go_simp; done) | (go_simp; rfl)); intro gb128 hg w24 hbox hb; have n0_ := Aside0.mk (Kd.R_below (Kd.R_elderB (by (with_reducible repeat (first | apply Kd.R_alloc | apply Kd.R_drewN | apply Kd.R_drew)); exact HO_7.out) gb128 (Nat.le_of_eq hg.symm)) hb); have n1_ := Aside0.mk (Kd.R_below (Kd.R_elderB (by (with_reducible repeat (first | apply Kd.R_alloc | apply Kd.R_drewN | apply Kd.R_drew)); exact HO_31.out) gb128 (Nat.le_of_eq hg.symm)) hb); have n2_ := Aside0.mk (below_step hb_ hb); have n3_ := Aside0.mk (hbox); have n4_ := Aside0.mk ((by rw [hg]; exact (below_size hb_) : w.heap.size ≤ gb128)); have n5_ := Aside0.mk ((by rw [hg]; exact (below_size hb_) : w.heap.size ≤ gb128)); clear HO_7; clear HO_31; clear HB; have HO_7 := n0_; have HO_31 := n1_; have HB := n2_; have BK128 := n3_; have GW128 := n4_; have GE128 := n5_; clear n0_ n1_ n2_ n3_ n4_ n5_; clear hb hbox hg; obtain ⟨hcz25_0, hcz25_1, hcz25_2, hcz25_3, hcz25_4⟩ := cs5 BK128.out; obtain ⟨hfz25_0, hfz25_1, hfz25_2, hfz25_3, hfz25_4⟩ := fs5 BK128.out) | ((with_reducible refine gate_callee (f := 24) rfl ?_); refine goesL_ (some 40) rfl rfl Try.func24 (by kernel_rfl) rfl #[.slice (some ad126) x7_1.length co12, .int .i64 x33_2] rfl sl_ ?_; (with_reducible refine (cluster_spread.calls _ _ x7_1 x33_2 t129 _ ?side1 ?side2 A16.out).mono ?_); (case side1 => refine (Kd.R_reads' (e := 34) (base := w.heap.size) (ok := fun k_ => (True ∧ k_ ≠ gb128)) (n := x7_1.length) (c := co12) ?_).2.2; exact (by (with_reducible repeat (first | apply Kd.R_alloc | apply Kd.R_drewN | apply Kd.R_drew)); exact (Kd.R_mono (Kd.R_far (p := ⟨gb128, 4, none⟩) (Kd.R_far (p := ⟨gb128, 3, none⟩) (Kd.R_far (p := ⟨gb128, 2, none⟩) (Kd.R_far (p := ⟨gb128, 1, none⟩) (Kd.R_far (p := ⟨gb128, 0, none⟩) (Kd.R_mono HO_7.out (fun k_ hk => (⟨hk, hk.2⟩ : _ ∧ k_ ≠ gb128))) (fun _ hk => hk.2) (.int .i64 ((rd_T34 x7_1 x33_2).f0))) (fun _ hk => hk.2) (.int .i64 ((rd_T34 x7_1 x33_2).f1))) (fun _ hk => hk.2) (.int .i64 ((rd_T34 x7_1 x33_2).f2))) (fun _ hk => hk.2) (.int .i64 ((rd_T34 x7_1 x33_2).f3))) (fun _ hk => hk.2) (.int .i64 ((rd_T34 x7_1 x33_2).f4))) (fun _ h_ => h_.1)))); (case side2 => exact (Kd.R_reads' HO_7.out).2.1); rintro e w26 ⟨rfl, hb⟩; refine ⟨_, rfl, ?_⟩; have n0_ := Aside0.mk (Kd.R_below (by (with_reducible repeat (first | apply Kd.R_alloc | apply Kd.R_drewN | apply Kd.R_drew)); exact (Kd.R_mono (Kd.R_far (p := ⟨gb128, 4, none⟩) (Kd.R_far (p := ⟨gb128, 3, none⟩) (Kd.R_far (p := ⟨gb128, 2, none⟩) (Kd.R_far (p := ⟨gb128, 1, none⟩) (Kd.R_far (p := ⟨gb128, 0, none⟩) (Kd.R_mono HO_7.out (fun k_ hk => (⟨hk, hk.2⟩ : _ ∧ k_ ≠ gb128))) (fun _ hk => hk.2) (.int .i64 ((rd_T34 x7_1 x33_2).f0))) (fun _ hk => hk.2) (.int .i64 ((rd_T34 x7_1 x33_2).f1))) (fun _ hk => hk.2) (.int .i64 ((rd_T34 x7_1 x33_2).f2))) (fun _ hk => hk.2) (.int .i64 ((rd_T34 x7_1 x33_2).f3))) (fun _ hk => hk.2) (.int .i64 ((rd_T34 x7_1 x33_2).f4))) (fun _ h_ => h_.1))) hb); have n1_ := Aside0.mk (Kd.R_below (by (with_reducible repeat (first | apply Kd.R_alloc | apply Kd.R_drewN | apply Kd.R_drew)); exact (Kd.R_mono (Kd.R_far (p := ⟨gb128, 4, none⟩) (Kd.R_far (p := ⟨gb128, 3, none⟩) (Kd.R_far (p := ⟨gb128, 2, none⟩) (Kd.R_far (p := ⟨gb128, 1, none⟩) (Kd.R_far (p := ⟨gb128, 0, none⟩) (Kd.R_mono HO_31.out (fun k_ hk => (⟨hk, hk.2⟩ : _ ∧ k_ ≠ gb128))) (fun _ hk => hk.2) (.int .i64 ((rd_T34 x7_1 x33_2).f0))) (fun _ hk => hk.2) (.int .i64 ((rd_T34 x7_1 x33_2).f1))) (fun _ hk => hk.2) (.int .i64 ((rd_T34 x7_1 x33_2).f2))) (fun _ hk => hk.2) (.int .i64 ((rd_T34 x7_1 x33_2).f3))) (fun _ hk => hk.2) (.int .i64 ((rd_T34 x7_1 x33_2).f4))) (fun _ h_ => h_.1))) hb); have n2_ := Aside0.mk (blk_below (g := gb128) (o := .cells #[.int .i64 ((rd_T34 x7_1 x33_2).f0), .int .i64 ((rd_T34 x7_1 x33_2).f1), .int .i64 ((rd_T34 x7_1 x33_2).f2), .int .i64 ((rd_T34 x7_1 x33_2).f3), .int .i64 ((rd_T34 x7_1 x33_2).f4)] 34 (0, 0)) (by (with_reducible repeat (first | refine blk_drewN ?_ _ | refine blk_drew ?_ | refine blk_alloc ?_ _)); refine blk_put (cs := #[.int .i64 ((rd_T34 x7_1 x33_2).f0), .int .i64 ((rd_T34 x7_1 x33_2).f1), .int .i64 ((rd_T34 x7_1 x33_2).f2), .int .i64 ((rd_T34 x7_1 x33_2).f3), .int .i64 0]) ?_ 4 _ rfl; (with_reducible repeat (first | refine blk_drewN ?_ _ | refine blk_drew ?_ | refine blk_alloc ?_ _)); refine blk_put (cs := #[.int .i64 ((rd_T34 x7_1 x33_2).f0), .int .i64 ((rd_T34 x7_1 x33_2).f1), .int .i64 ((rd_T34 x7_1 x33_2).f2), .int .i64 0, .int .i64 0]) ?_ 3 _ rfl; (with_reducible repeat (first | refine blk_drewN ?_ _ | refine blk_drew ?_ | refine blk_alloc ?_ _)); refine blk_put (cs := #[.int .i64 ((rd_T34 x7_1 x33_2).f0), .int .i64 ((rd_T34 x7_1 x33_2).f1), .int .i64 0, .int .i64 0, .int .i64 0]) ?_ 2 _ rfl; (with_reducible repeat (first | refine blk_drewN ?_ _ | refine blk_drew ?_ | refine blk_alloc ?_ _)); refine blk_put (cs := #[.int .i64 ((rd_T34 x7_1 x33_2).f0), .int .i64 0, .int .i64 0, .int .i64 0, .int .i64 0]) ?_ 1 _ rfl; (with_reducible repeat (first | refine blk_drewN ?_ _ | refine blk_drew ?_ | refine blk_alloc ?_ _)); refine blk_put (cs := #[.int .i64 0, .int .i64 0, .int .i64 0, .int .i64 0, .int .i64 0]) ?_ 0 _ rfl; (with_reducible repeat (first | refine blk_drewN ?_ _ | refine blk_drew ?_ | refine blk_alloc ?_ _)); exact BK128.out) hb); have n3_ := Aside0.mk (below_step hb_ hb); clear HO_7; clear HO_31; clear BK128; clear HB; have HO_7 := n0_; have HO_31 := n1_; have BK128 := n2_; have HB := n3_; clear n0_ n1_ n2_ n3_; (try clear hb); (try clear hb2); (try clear hk); (try clear hi); obtain ⟨hcz27_0, hcz27_1, hcz27_2, hcz27_3, hcz27_4⟩ := cs5 BK128.out; obtain ⟨hfz27_0, hfz27_1, hfz27_2, hfz27_3, hfz27_4⟩ := fs5 BK128.out))
                          go_roundg k2
                          case measure => have := HK1.out; have := HK2.out; omega
                          case rel => exact ⟨(x8_2), (x9_2), (ji23), (wrap64 (x33_2 + 1)), (by first | rfl | (simp; done) | (simp [*]; done)), (by first | rfl | (simp; done) | (simp [*]; done)), (by first | rfl | (simp; done) | (simp only [← hji23] <;> (first | rfl | simp)) | (simp [*]; done)), (by first | rfl | (simp; done) | (simp [*]; done)), H', ⟨by have := HK1.out; have := HK2.out; omega⟩, ⟨by (with_reducible repeat (first | apply Kd.R_alloc | apply Kd.R_drewN | apply Kd.R_drew)); exact Kd.R_mono HO_7.out (fun _ hk => trivial)⟩, ⟨by (with_reducible repeat (first | apply Kd.R_alloc | apply Kd.R_drewN | apply Kd.R_drew)); exact Kd.R_mono HO_31.out (fun _ hk => trivial)⟩, ⟨hb_⟩⟩
                      · rw [if_neg c15] at H
                        exact absurd H (by simp)
                    · rw [if_neg c14] at H
                      exact absurd H (by simp)
                  · rw [if_neg c13] at H
                    have c13b0 : decide (x33_2 < (x7_1.length : Int)) = false := decide_eq_false c13
                    clear c13
                    by_cases c28 : x9_2 ≤ x10_2
                    · rw [if_pos c28] at H
                      have c28b0 : decide (x9_2 ≤ x10_2) = true := decide_eq_true c28
                      clear c28
                      simp only [Option.some.injEq, Prod.mk.injEq] at H
                      obtain ⟨rfl, rfl⟩ := H
                      go_wp2
                      go_ret2
                      exact ⟨_, by first | rfl | (simp [errW_none, errW_some] <;> rfl) | (simp [*, errW_none, errW_some] <;> rfl), by (with_reducible repeat (first | apply Kd.R_alloc | apply Kd.R_drewN | apply Kd.R_drew)); exact HO_7.out, hb_⟩
                    · rw [if_neg c28] at H
                      have c28b0 : decide (x9_2 ≤ x10_2) = false := decide_eq_false c28
                      clear c28
                      replace H := Option.bind_eq_some_iff.mp H
                      obtain ⟨t130, A290, H⟩ := H
                      replace H : (cluster_Prune.l0 k2 a1 t130) = some (r1, r2) := H
                      have A29 := Aside0.mk A290
                      clear A290
                      have H' := Aside0.mk H
                      clear H
                      go_wp2_with (first | ((with_reducible refine gate_callee (f := 26) rfl ?_); refine goesL_ (some 58) rfl rfl Try.func26 (by kernel_rfl) rfl #[.slice (some ad126) x7_1.length co12, .int .i64 x8_2, .int .i64 (wrap64 (x8_2 + 1))] rfl sl_ ?_; (with_reducible refine (api_Cand_26.turns (by (with_reducible repeat (first | apply Kd.R_alloc | apply Kd.R_drewN | apply Kd.R_drew)); exact HO_7.out) A29.out).mono ?_); rintro e w30 ⟨v131, rfl, ho0, hb⟩; refine ⟨_, rfl, ?_⟩; have HO132 := Aside0.mk ho0; have n3_ := Aside0.mk (Below.trans hb_ (hb (below_size hb_))); clear HO_7; clear HO_31; clear HB; have HB := n3_; clear n3_; (try clear hb); (try clear hb); (try clear hb2); (try clear hk); (try clear hi); (try clear ho0)))
                      go_roundg k2
                      case measure => have := HK1.out; have := HK2.out; omega
                      case rel => exact ⟨(t130), H', ⟨by have := HK1.out; have := HK2.out; omega⟩, ⟨by (with_reducible repeat (first | apply Kd.R_alloc | apply Kd.R_drewN | apply Kd.R_drew)); exact Kd.R_mono HO132.out (fun _ hk => trivial)⟩, ⟨hb_⟩⟩
            · rw [if_neg c11] at H
              exact absurd H (by simp)
          · rw [if_neg c10] at H
            have c10b0 : decide (a1 < (x7_1.length : Int)) = false := decide_eq_false c10
            clear c10
            simp only [Option.some.injEq, Prod.mk.injEq] at H
            obtain ⟨rfl, rfl⟩ := H
            obtain ⟨Ao31, co31, eo31⟩ := Kd.R_slice HO_7.out
            subst eo31
            go_wp2
            go_ret2
            exact ⟨_, by first | rfl | (simp [errW_none, errW_some] <;> rfl) | (simp [*, errW_none, errW_some] <;> rfl), by (with_reducible repeat (first | apply Kd.R_alloc | apply Kd.R_drewN | apply Kd.R_drew)); exact HO_7.out, hb_⟩
  · rw [if_neg c4] at H
    have c4b0 : (t122 == 0) = false := beq_eq_false_iff_ne.mpr c4
    have c4b1 : (t122 != 0) = true := bne_iff_ne.mpr c4
    simp only [Option.some.injEq, Prod.mk.injEq] at H
    obtain ⟨rfl, rfl⟩ := H
    go_enter Try.func19, Try.ntmps19
    go_wp2_with (first | ((with_reducible refine gate_callee (f := 17) rfl ?_); refine goesL_ (some 15) rfl rfl Try.func17 (by kernel_rfl) rfl #[.slice A0 l0.length c0] rfl sl_ ?_; (with_reducible refine (choose_Check.calls k _ _ l0 t122 _ ?side1 ?side2 A3.out).mono ?_); (case side1 => repeat (first | exact HR0.out | (with_reducible refine Kd.C_alloc ?_ _) | (with_reducible refine Kd.C_drewN ?_ _) | (with_reducible refine Kd.C_drew ?_))); (case side2 => exact HC0.out); rintro e w32 ⟨rfl, hb⟩; refine ⟨_, rfl, ?_⟩; have n0_ := Aside0.mk (below_step hb_ hb); clear HB; have HB := n0_; clear n0_; (try clear hb); (try clear hb2); (try clear hk); (try clear hi)))
    go_ret2
    exact ⟨_, by first | rfl | (simp [errW_none, errW_some] <;> rfl) | (simp [*, errW_none, errW_some] <;> rfl), by first | exact Kd.R_nil _ _ _ _ _ | exact Kd.N_nil _ _ _ _ _ | exact Kd.V_nil _ _ _ _ _ | exact Kd.Q_nil _ _ _ _ _ | exact Kd.S_nil _ _ _ _ _, hb_⟩

end Go.Proofs.Ytbcmfmlbagjdoaa.PAll
