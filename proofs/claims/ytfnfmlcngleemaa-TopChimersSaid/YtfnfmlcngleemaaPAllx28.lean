-- A text of this session, written by a program of its own (wip/tools).
import Derived.Test.YtfnfmlcngleemaaPAllx0
import Derived.Test.YtfnfmlcngleemaaPAllx25
import Derived.Test.YtfnfmlcngleemaaPAllx27
import Derived.Test.YtfnfmlcngleemaaTu
namespace Go.Proofs.Ytfnfmlcngleemaa.PAll
open Go.RowKit Go.Proofs.YtfnfmlcngleemaaW.PrintWords Go.Proofs.YtfnfmlcngleemaaW.PrintLast Go.Proofs.YtfnfmlcngleemaaW.PrintMore
attribute [local go_sem] max2_int min2_int max_two min_two max_three min_three max_four min_four   -- for this text's walks alone
set_option linter.unusedVariables false
set_option linter.unusedSimpArgs false

/-! ### interval_Hull: function 9 -/
def interval_Hull.f (k : Nat) (l0 : List S25) (a1 : Int) : Option (Int × Int × Bool) :=
  (interval_runs.f k l0).bind fun rs => if a1 < 1 ∨ Th.idx a1 rs < 0 then some (0, 0, false) else (interval_run_16.f rs).bind fun rv => if Th.idx a1 rv < 0 then none else some ((rd_T44 rs (Th.idx a1 rs)).f0, (rd_T44 rv (Th.idx a1 rv)).f1, true)
theorem interval_Hull.mono : ∀ a0 a1 k, LeO (interval_Hull.f k a0 a1) (interval_Hull.f (k + 1) a0 a1) := by
  intro a0 a1 k r h
  unfold interval_Hull.f at h ⊢
  cases hrs : interval_runs.f k a0 with
  | none => rw [hrs] at h; cases h
  | some rs =>
    rw [interval_runs.mono a0 k rs hrs]
    rw [hrs] at h
    exact h
theorem interval_Hull.calls (k : Nat) (A0 : Option Addr) (c0 : Nat) (l0 : List (S25)) (a1 : Int) (r1 r2 : Int) (r3 : Bool) (w : World) (hr0 : Kd.C k25 w A0 l0.length l0) (hc0 : l0.length ≤ c0) (h : interval_Hull.f k l0 a1 = some (r1, r2, r3)) :
    Calls Try.prog 9 #[.slice A0 l0.length c0, .int .i64 a1] w fun e w' => e = .returned (.tuple #[.agg #[.int .i64 r1, .int .i64 r2], .bool r3]) ∧ Below w.heap.size w w' := by
  unfold interval_Hull.f at h
  cases hrs : interval_runs.f k l0 with
  | none => rw [hrs] at h; cases h
  | some rs =>
    rw [hrs, Option.bind_some] at h
    by_cases hs : a1 < 1 ∨ Th.idx a1 rs < 0
    · rw [if_pos hs] at h
      simp only [Option.some.injEq, Prod.mk.injEq] at h
      obtain ⟨rfl, rfl, rfl⟩ := h
      exact Th.Hull_stop k A0 c0 l0 a1 rs w hr0 hc0 hrs hs
    · rw [if_neg hs] at h
      cases hrv : interval_run_16.f rs with
      | none => rw [hrv] at h; cases h
      | some rv =>
        rw [hrv, Option.bind_some] at h
        by_cases h2 : Th.idx a1 rv < 0
        · rw [if_pos h2] at h; cases h
        · rw [if_neg h2] at h
          simp only [Option.some.injEq, Prod.mk.injEq] at h
          obtain ⟨rfl, rfl, rfl⟩ := h
          exact Th.Hull_main k A0 c0 l0 a1 rs rv w hr0 hc0 hrs (fun q => hs (Or.inl q)) (by omega) hrv (by omega)

end Go.Proofs.Ytfnfmlcngleemaa.PAll
