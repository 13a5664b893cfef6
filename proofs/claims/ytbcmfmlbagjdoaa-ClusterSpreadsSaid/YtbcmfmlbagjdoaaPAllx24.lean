-- A text of this session, written by a program of its own (wip/tools).
import Derived.Test.YtbcmfmlbagjdoaaPAllx0
import Derived.Test.YtbcmfmlbagjdoaaCo
namespace Go.Proofs.Ytbcmfmlbagjdoaa.PAll
open Go.RowKit Go.Proofs.YtbcmfmlbagjdoaaW.PrintWords Go.Proofs.YtbcmfmlbagjdoaaW.PrintLast Go.Proofs.YtbcmfmlbagjdoaaW.PrintMore
attribute [local go_sem] max2_int min2_int max_two min_two max_three min_three max_four min_four   -- for this text's walks alone
set_option linter.unusedVariables false
set_option linter.unusedSimpArgs false

/-! ### cluster_ordered: function 20 -/
def cluster_ordered.ids : List S34 → Bool
  | [] => true
  | x :: r => r.all (fun y => decide (x.f0 ≠ y.f0)) && cluster_ordered.ids r
theorem cluster_ordered.ids_tells : ∀ l, cluster_ordered.ids l = true → Ca.ids l
  | [], _ => List.Pairwise.nil
  | x :: r, h => by
    unfold cluster_ordered.ids at h
    rw [Bool.and_eq_true, List.all_eq_true] at h
    exact List.Pairwise.cons (fun y hy => of_decide_eq_true (h.1 y hy)) (cluster_ordered.ids_tells r h.2)
theorem cluster_ordered.ids_of : ∀ l, Ca.ids l → cluster_ordered.ids l = true
  | [], _ => rfl
  | x :: r, h => by
    have h1 := List.pairwise_cons.1 h
    unfold cluster_ordered.ids
    rw [Bool.and_eq_true, List.all_eq_true]
    exact ⟨fun y hy => decide_eq_true (h1.1 y hy), cluster_ordered.ids_of r h1.2⟩
def cluster_ordered.f (l0 : List S34) : Option (List S34) := if l0.length ≤ 12 ∧ cluster_ordered.ids l0 = true then some (Ca.isort l0) else none
theorem cluster_ordered.calls (A0 : Option Addr) (c0 : Nat) (l0 : List (S34)) (r : List (S34)) (w : World) (hr0 : Kd.C k34 w A0 l0.length l0) (hc0 : l0.length ≤ c0) (h : cluster_ordered.f l0 = some r) :
    Calls Try.prog 20 #[.slice A0 l0.length c0] w fun e w' => ∃ v0_ : Value, e = .returned (v0_) ∧ Kd.R k34 34 w' w.heap.size (fun _ => True) v0_ r ∧ Below w.heap.size w w' := by
  unfold cluster_ordered.f at h
  by_cases h0 : l0.length ≤ 12 ∧ cluster_ordered.ids l0 = true
  · rw [if_pos h0] at h
    obtain rfl := Option.some.inj h
    refine (Ca.ordered_any A0 c0 l0 w h0.1 hr0).mono ?_
    rintro e w' ⟨v, rfl, hown, hb⟩
    rw [← Ca.sortS_size l0, Ca.sortS_isort l0 (cluster_ordered.ids_tells l0 h0.2)] at hown
    exact ⟨v, rfl, Ca.row_of_own hown, hb⟩
  · rw [if_neg h0] at h
    cases h


end Go.Proofs.Ytbcmfmlbagjdoaa.PAll
