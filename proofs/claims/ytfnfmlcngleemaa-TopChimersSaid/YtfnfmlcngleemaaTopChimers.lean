/- TopChimers: the walk and the law together. -/
import Derived.Test.YtfnfmlcngleemaaOpenRows5
import Derived.Test.YtfnfmlcngleemaaTp
namespace Go.Proofs.Ytfnfmlcngleemaa.Tp
open Go Go.RowKit Go.Proofs.Ytfnfmlcngleemaa.PAll Go.Proofs.YtfnfmlcngleemaaW.PrintWords Go.Proofs.YtfnfmlcngleemaaW.PrintMore
set_option linter.unusedVariables false
set_option linter.unusedSimpArgs false
def conv (l : List (Int × Int × Int × Int × Int)) : List S32 := l.map fun p => ⟨p.1, p.2.1, p.2.2.1, p.2.2.2.1, p.2.2.2.2⟩
theorem conv_length (l : List (Int × Int × Int × Int × Int)) : (conv l).length = l.length := by unfold conv; simp
theorem row_reads {w : World} {A : Option Addr} {len cap : Nat} {l : List (Int × Int × Int × Int × Int)} (h : Rk.Row w A len cap l) (h100 : len ≤ 100) : Kd.C k32 w A (conv l).length (conv l) := by
  refine ⟨rfl, by rw [conv_length, h.cnt]; omega, fun hp => ?_⟩
  rw [conv_length, h.cnt] at hp
  cases A with
  | none => have := (h.nil rfl).1; omega
  | some a =>
    refine ⟨a, rfl, fun j p hj => ?_⟩
    unfold conv at hj
    rw [List.getElem?_map] at hj
    obtain ⟨q, hq, rfl⟩ := Option.map_eq_some_iff.1 hj
    obtain ⟨c0, c1, c2, c3, c4⟩ := h.cell a rfl j q hq
    refine ⟨[.int .i64 q.1, .int .i64 q.2.1, .int .i64 q.2.2.1, .int .i64 q.2.2.2.1, .int .i64 q.2.2.2.2], rfl, k32_mk w _, fun i u hu => ?_⟩
    show w.cell? (a.add (j * 5 + i)) = some u
    match i, hu with
    | 0, hu => simp at hu; rw [← hu]; exact c0
    | 1, hu => simp at hu; rw [Open.add_tail a (j * 5) 1 (by decide), ← hu]; exact c1
    | 2, hu => simp at hu; rw [Open.add_tail a (j * 5) 2 (by decide), ← hu]; exact c2
    | 3, hu => simp at hu; rw [Open.add_tail a (j * 5) 3 (by decide), ← hu]; exact c3
    | 4, hu => simp at hu; rw [Open.add_tail a (j * 5) 4 (by decide), ← hu]; exact c4
    | i + 5, hu => simp at hu

theorem TopChimers_walk (A : Option Addr) (len cap : Nat) (l : List (Int × Int × Int × Int × Int)) (w : World) (hl : Rk.Row w A len cap l) :
    Calls Try.prog 3 #[.slice A len cap] w fun e w' => e = .returned (.bool true) ∧ Below w.heap.size w w' := by
  by_cases h : 100 < len
  · have h1 : (len : Int) > 100 := by omega
    have h2 : decide ((len : Int) > 100) = true := decide_eq_true h1
    have h3 : (100 : Int) < (len : Int) := h1
    have hB := Aside0.mk (Below.refl w.heap.size w)
    go_enter Try.func3, Try.ntmps3
    go_wp2
    all_goals (go_ret; exact ⟨rfl, hB.out⟩)
  · have hr := row_reads hl (by omega)
    have e : (conv l).length = len := by rw [conv_length, hl.cnt]
    have hc := timesynctop_TopChimers.calls 1000 A cap (conv l) true w hr (by rw [e]; exact hl.le) (Top_true (conv l) (by omega))
    rwa [e] at hc
end Go.Proofs.Ytfnfmlcngleemaa.Tp
