/- The laws' way in: what was handed in, as a list of candidates; a list that is too long. -/
import Derived.Test.YtbcmfmlbagjdoaaOpenRows5
import Derived.Test.YtbcmfmlbagjdoaaCr
import Derived.Test.YtbcmfmlbagjdoaaPAllx2
namespace Go.Proofs.Ytbcmfmlbagjdoaa.Cq
open Go Go.RowKit Go.Proofs.Ytbcmfmlbagjdoaa.PAll Go.Proofs.Ytbcmfmlbagjdoaa.Ca Go.Proofs.YtbcmfmlbagjdoaaW.PrintWords Go.Proofs.YtbcmfmlbagjdoaaW.PrintMore
set_option linter.unusedVariables false
set_option linter.unusedSimpArgs false
def conv (l : List (Int × Int × Int × Int × Int)) : List S34 := l.map fun p => ⟨p.1, p.2.1, p.2.2.1, p.2.2.2.1, p.2.2.2.2⟩
theorem conv_length (l : List (Int × Int × Int × Int × Int)) : (conv l).length = l.length := by unfold conv; simp
theorem row_reads {w : World} {A : Option Addr} {len cap : Nat} {l : List (Int × Int × Int × Int × Int)} (h : Rk.Row w A len cap l) (h30 : len ≤ 30) : Kd.C k34 w A (conv l).length (conv l) := by
  refine ⟨rfl, by rw [conv_length, h.cnt]; omega, fun hp => ?_⟩
  rw [conv_length, h.cnt] at hp
  cases A with
  | none => have := (h.nil rfl).1; omega
  | some a =>
    refine ⟨a, rfl, fun j p hj => ?_⟩
    unfold conv at hj
    rw [List.getElem?_map] at hj
    obtain ⟨q, hq, rfl⟩ := Option.map_eq_some_iff.1 hj
    obtain ⟨c0, c1, c2, c3, c4⟩ := h.cell a rfl j q hq
    refine ⟨[.int .i64 q.1, .int .i64 q.2.1, .int .i64 q.2.2.1, .int .i64 q.2.2.2.1, .int .i64 q.2.2.2.2], rfl, k34_mk w _, fun i u hu => ?_⟩
    show w.cell? (a.add (j * 5 + i)) = some u
    match i, hu with
    | 0, hu => simp at hu; rw [← hu]; exact c0
    | 1, hu => simp at hu; rw [Open.add_tail a (j * 5) 1 (by decide), ← hu]; exact c1
    | 2, hu => simp at hu; rw [Open.add_tail a (j * 5) 2 (by decide), ← hu]; exact c2
    | 3, hu => simp at hu; rw [Open.add_tail a (j * 5) 3 (by decide), ← hu]; exact c3
    | 4, hu => simp at hu; rw [Open.add_tail a (j * 5) 4 (by decide), ← hu]; exact c4
    | i + 5, hu => simp at hu

theorem awake_any (w : World) : Calls Try.prog 9 #[] w fun e w' => e = .returned (.bool true) ∧ Below w.heap.size w w' :=
  timesynclaw25_awake.calls 70 true w (awake_ok 70 (by omega))
theorem few_big (A : Option Addr) (len cap : Nat) (w : World) (h : 30 < len) : Calls Try.prog 8 #[.slice A len cap] w fun e w' => e = .returned (.bool false) ∧ w = w' := by
  have h1 : ¬ (len : Int) ≤ 30 := by omega
  have h2 : ¬ len ≤ 30 := by omega
  go_enter Try.func8, Try.ntmps8
  go_wp2
  all_goals (go_ret; exact ⟨by simp [h2], rfl⟩)
theorem few_ok {l : List S34} (h : l.length ≤ 30) : timesynclaw25_few.f l = some true := by
  unfold timesynclaw25_few.f
  rw [decide_eq_true (by omega)]
end Go.Proofs.Ytbcmfmlbagjdoaa.Cq
