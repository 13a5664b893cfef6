/- ServoChecks: walked. -/
import Derived.Test.YtimcdiombljajaaSa
import Derived.Test.YtimcdiombljajaaPAllx2
import Derived.Deep.RegionHeld3
namespace Go.Proofs.Ytimcdiombljajaa.Sv
open Go Go.RowKit Go.Proofs.YtimcdiombljajaaW.PrintWords Go.Proofs.YtimcdiombljajaaW.PrintLast Go.Proofs.YtimcdiombljajaaW.PrintMore Go.Proofs.Ytimcdiombljajaa.PAll
set_option linter.unusedVariables false
set_option linter.unusedSimpArgs false

/-- whether a configuration is valid -/
def okC (kp ki li sf sl : Int) : Prop := (0 ≤ kp ∧ kp ≤ 1048576) ∧ (0 ≤ ki ∧ ki ≤ 1048576) ∧ (1 ≤ li ∧ li ≤ 500000) ∧ (0 ≤ sf ∧ sf ≤ 1125899906842624) ∧ (0 ≤ sl ∧ sl ≤ 1125899906842624)
instance (kp ki li sf sl : Int) : Decidable (okC kp ki li sf sl) := inferInstanceAs (Decidable (_ ∧ _))
theorem Check_tells (kp ki li sf sl : Int) : servo_Check.f kp ki li sf sl = some (if okC kp ki li sf sl then 0 else 3) := by
  unfold servo_Check.f
  by_cases h : okC kp ki li sf sl
  · rw [if_pos h]
    unfold okC at h
    repeat rw [if_neg (by omega)]
  · rw [if_neg h]
    unfold okC at h
    split
    · rfl
    split
    · rfl
    split
    · rfl
    split
    · rfl
    split
    · rfl
    split
    · rfl
    split
    · rfl
    split
    · rfl
    split
    · rfl
    split
    · rfl
    exact absurd (by omega) h
theorem rCheck_tells (kp ki li sf sl : Int) (k : Nat) (hk : 0 < k) : timesyncref12_Check.f k kp ki li sf sl = some (if okC kp ki li sf sl then 0 else 3) := by
  obtain ⟨k, rfl⟩ : ∃ m, k = m + 1 := ⟨k - 1, by omega⟩
  unfold timesyncref12_Check.f
  simp only [timesyncref12_Check.j0, if_true, decide_eq_true_eq]
  by_cases h : okC kp ki li sf sl
  · rw [if_pos h]
    unfold okC at h
    repeat rw [if_neg (by omega)]
  · rw [if_neg h]
    unfold okC at h
    split
    · rfl
    split
    · rfl
    split
    · rfl
    split
    · rfl
    split
    · rfl
    split
    · rfl
    split
    · rfl
    split
    · rfl
    split
    · rfl
    split
    · rfl
    exact absurd (by omega) h

theorem check_any (kp ki li sf sl : Int) (w : World) :
    Calls Try.prog 11 #[.agg #[.int .i64 kp, .int .i64 ki, .int .i64 li, .int .i64 sf, .int .i64 sl]] w fun e w' => e = .returned (.int .i64 (if okC kp ki li sf sl then 0 else 3)) ∧ Below w.heap.size w w' :=
  servo_Check.calls _ _ _ _ _ _ w (Check_tells kp ki li sf sl)
theorem rcheck_any (kp ki li sf sl : Int) (w : World) :
    Calls Try.prog 12 #[.agg #[.int .i64 kp, .int .i64 ki, .int .i64 li, .int .i64 sf, .int .i64 sl]] w fun e w' => e = .returned (.int .i64 (if okC kp ki li sf sl then 0 else 3)) ∧ Below w.heap.size w w' :=
  timesyncref12_Check.calls 1 _ _ _ _ _ _ w (rCheck_tells kp ki li sf sl 1 (by decide))
theorem new_ok (kp ki li sf sl : Int) (w : World) (h : okC kp ki li sf sl) :
    Calls Try.prog 13 #[.agg #[.int .i64 kp, .int .i64 ki, .int .i64 li, .int .i64 sf, .int .i64 sl]] w fun e w' =>
      ∃ g, w.heap.size ≤ g ∧ e = .returned (.pointer (some ⟨g, 0, none⟩)) ∧ w'.heap[g]? = some (svo ⟨kp, ki, li, sf, sl⟩ ⟨0, 0, 0⟩) ∧ Below w.heap.size w w' :=
  new_some kp ki li sf sl w (by rw [Check_tells, if_pos h])
theorem new_no (kp ki li sf sl : Int) (w : World) (h : ¬ okC kp ki li sf sl) :
    Calls Try.prog 13 #[.agg #[.int .i64 kp, .int .i64 ki, .int .i64 li, .int .i64 sf, .int .i64 sl]] w fun e w' => e = .returned (.pointer none) ∧ Below w.heap.size w w' :=
  new_none kp ki li sf sl 3 w (by decide) (by rw [Check_tells, if_neg h])

/-- Below, over draws. -/
theorem below_on {w W W' w1 : World} (h : Below w.heap.size w W) (k : Below W'.heap.size W' w1) (e1 : W'.heap = W.heap) (e2 : W'.os = W.os) (e3 : W'.tape = W.tape) (e4 : W'.output = W.output) : Below w.heap.size w w1 :=
  h.trans ⟨k.os.trans e2, k.tape.trans e3, k.output.trans e4, by have := k.size; rw [e1] at this; exact this, fun i hi => by
    have h1 := h.size
    have := k.block i (by rw [e1]; omega)
    rw [e1] at this; exact this⟩
set_option maxHeartbeats 2000000 in
theorem ServoChecks_walk (kp ki li sf sl : Int) (w : World) (w0 : (Lit.int .i64 kp).wf = true) (w1 : (Lit.int .i64 ki).wf = true) (w2 : (Lit.int .i64 li).wf = true) (w3 : (Lit.int .i64 sf).wf = true) (w4 : (Lit.int .i64 sl).wf = true) :
    Calls Try.prog 3 #[.agg #[.int .i64 kp, .int .i64 ki, .int .i64 li, .int .i64 sf, .int .i64 sl]] w fun e w' => e = .returned (.bool true) ∧ Below w.heap.size w w' := by
  clear w0 w1 w2 w3 w4
  have R0 := blk_new w (.cells #[.int .i64 kp, .int .i64 ki, .int .i64 li, .int .i64 sf, .int .i64 sl] 23)
  have L0 : Below w.heap.size w (w.alloc (.cells #[.int .i64 kp, .int .i64 ki, .int .i64 li, .int .i64 sf, .int .i64 sl] 23)) := (Below.refl _ _).alloc (Nat.le_refl _) _
  obtain ⟨c0, c1, c2, c3, c4⟩ := cs5 R0
  by_cases h : okC kp ki li sf sl
  · have hC := check_any kp ki li sf sl
    have hR := rcheck_any kp ki li sf sl
    have hN := fun W => new_ok kp ki li sf sl W h
    simp only [if_pos h] at hC hR
    replace hC := Aside0.mk hC
    replace hR := Aside0.mk hR
    replace hN := Aside0.mk hN
    clear h
    go_enter Try.func3, Try.ntmps3
    go_wp2
    go_region_held3 (fun w' => w'.cell? ⟨w.heap.size, 0, none⟩ = some (.int .i64 kp) ∧ w'.cell? ⟨w.heap.size, 1, none⟩ = some (.int .i64 ki) ∧ w'.cell? ⟨w.heap.size, 2, none⟩ = some (.int .i64 li) ∧ w'.cell? ⟨w.heap.size, 3, none⟩ = some (.int .i64 sf) ∧ w'.cell? ⟨w.heap.size, 4, none⟩ = some (.int .i64 sl))
      (first | go_keep | (exact cs5 (by assumption)))
      (first
      | (go_at_call 11
         refine Calls.mono (hC.out _) ?_
         rintro e w1 ⟨rfl, L1⟩
         have R1 : w1.heap[w.heap.size]? = some (.cells #[.int .i64 kp, .int .i64 ki, .int .i64 li, .int .i64 sf, .int .i64 sl] 23) := blk_below (by exact R0) L1
         replace L1 := below_on L0 L1 rfl rfl rfl rfl)
      | (go_at_call 12
         refine Calls.mono (hR.out _) ?_
         rintro e w2 ⟨rfl, L2⟩
         have R2 : w2.heap[w.heap.size]? = some (.cells #[.int .i64 kp, .int .i64 ki, .int .i64 li, .int .i64 sf, .int .i64 sl] 23) := blk_below (by exact R1) L2
         replace L2 := below_on L1 L2 rfl rfl rfl rfl)
      | (go_at_call 13
         refine Calls.mono (hN.out _) ?_
         rintro e w3 ⟨g, hg, rfl, B, L3⟩
         have R3 : w3.heap[w.heap.size]? = some (.cells #[.int .i64 kp, .int .i64 ki, .int .i64 li, .int .i64 sf, .int .i64 sl] 23) := blk_below (by exact R2) L3
         replace L3 := below_on L2 L3 rfl rfl rfl rfl
         clear B)
      | (go_at_call 12
         refine Calls.mono (hR.out _) ?_
         rintro e w4 ⟨rfl, L4⟩
         have R4 : w4.heap[w.heap.size]? = some (.cells #[.int .i64 kp, .int .i64 ki, .int .i64 li, .int .i64 sf, .int .i64 sl] 23) := blk_below (by exact R3) L4
         replace L4 := below_on L3 L4 rfl rfl rfl rfl)
      | (go_at_call 14; refine Calls.mono (awake_any _) ?_; rintro e w5 ⟨rfl, L5⟩; have R5 : w5.heap[w.heap.size]? = some (.cells #[.int .i64 kp, .int .i64 ki, .int .i64 li, .int .i64 sf, .int .i64 sl] 23) := blk_below (by exact R4) L5; replace L5 := below_on L4 L5 rfl rfl rfl rfl))
    all_goals go_wp2
    all_goals (go_ret; exact ⟨rfl, L5⟩)
  · have hC := check_any kp ki li sf sl
    have hR := rcheck_any kp ki li sf sl
    have hN := fun W => new_no kp ki li sf sl W h
    simp only [if_neg h] at hC hR
    replace hC := Aside0.mk hC
    replace hR := Aside0.mk hR
    replace hN := Aside0.mk hN
    clear h
    go_enter Try.func3, Try.ntmps3
    go_wp2
    go_region_held3 (fun w' => w'.cell? ⟨w.heap.size, 0, none⟩ = some (.int .i64 kp) ∧ w'.cell? ⟨w.heap.size, 1, none⟩ = some (.int .i64 ki) ∧ w'.cell? ⟨w.heap.size, 2, none⟩ = some (.int .i64 li) ∧ w'.cell? ⟨w.heap.size, 3, none⟩ = some (.int .i64 sf) ∧ w'.cell? ⟨w.heap.size, 4, none⟩ = some (.int .i64 sl))
      (first | go_keep | (exact cs5 (by assumption)))
      (first
      | (go_at_call 11
         refine Calls.mono (hC.out _) ?_
         rintro e w1 ⟨rfl, L1⟩
         have R1 : w1.heap[w.heap.size]? = some (.cells #[.int .i64 kp, .int .i64 ki, .int .i64 li, .int .i64 sf, .int .i64 sl] 23) := blk_below (by exact R0) L1
         replace L1 := below_on L0 L1 rfl rfl rfl rfl)
      | (go_at_call 12
         refine Calls.mono (hR.out _) ?_
         rintro e w2 ⟨rfl, L2⟩
         have R2 : w2.heap[w.heap.size]? = some (.cells #[.int .i64 kp, .int .i64 ki, .int .i64 li, .int .i64 sf, .int .i64 sl] 23) := blk_below (by exact R1) L2
         replace L2 := below_on L1 L2 rfl rfl rfl rfl)
      | (go_at_call 13
         refine Calls.mono (hN.out _) ?_
         rintro e w3 ⟨rfl, L3⟩
         have R3 : w3.heap[w.heap.size]? = some (.cells #[.int .i64 kp, .int .i64 ki, .int .i64 li, .int .i64 sf, .int .i64 sl] 23) := blk_below (by exact R2) L3
         replace L3 := below_on L2 L3 rfl rfl rfl rfl)
      | (go_at_call 12
         refine Calls.mono (hR.out _) ?_
         rintro e w4 ⟨rfl, L4⟩
         have R4 : w4.heap[w.heap.size]? = some (.cells #[.int .i64 kp, .int .i64 ki, .int .i64 li, .int .i64 sf, .int .i64 sl] 23) := blk_below (by exact R3) L4
         replace L4 := below_on L3 L4 rfl rfl rfl rfl)
      | (go_at_call 14; refine Calls.mono (awake_any _) ?_; rintro e w5 ⟨rfl, L5⟩; have R5 : w5.heap[w.heap.size]? = some (.cells #[.int .i64 kp, .int .i64 ki, .int .i64 li, .int .i64 sf, .int .i64 sl] 23) := blk_below (by exact R4) L5; replace L5 := below_on L4 L5 rfl rfl rfl rfl))
    all_goals go_wp2
    all_goals (go_ret; exact ⟨rfl, L5⟩)
end Go.Proofs.Ytimcdiombljajaa.Sv
