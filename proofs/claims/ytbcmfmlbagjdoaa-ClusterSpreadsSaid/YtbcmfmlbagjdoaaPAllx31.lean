-- A text of this session, written by a program of its own (wip/tools).
import Derived.Test.YtbcmfmlbagjdoaaPAllx0
import Derived.Test.YtbcmfmlbagjdoaaPAllx30
import Derived.Test.YtbcmfmlbagjdoaaCs
namespace Go.Proofs.Ytbcmfmlbagjdoaa.PAll
open Go.RowKit Go.Proofs.YtbcmfmlbagjdoaaW.PrintWords Go.Proofs.YtbcmfmlbagjdoaaW.PrintLast Go.Proofs.YtbcmfmlbagjdoaaW.PrintMore
attribute [local go_sem] max2_int min2_int max_two min_two max_three min_three max_four min_four   -- for this text's walks alone
set_option linter.unusedVariables false
set_option linter.unusedSimpArgs false

/-! ### cluster_spread: function 24 -/
def cluster_spread.fits (l0 : List S34) : Bool := l0.all fun x => decide (-4503599627370496 ≤ x.f1) && decide (x.f1 ≤ 4503599627370496)
theorem cluster_spread.fits_at {l0 : List S34} (h : cluster_spread.fits l0 = true) (i : Int) (h0 : 0 ≤ i) (h1 : i < (l0.length : Int)) : Ca.okO (rd_T34 l0 i) := by
  have hi : i.toNat < l0.length := by omega
  have e : rd_T34 l0 i = l0[i.toNat] := by
    unfold rd_T34
    rw [List.getD_eq_getElem?_getD, List.getElem?_eq_getElem hi]; rfl
  unfold cluster_spread.fits at h
  rw [List.all_eq_true] at h
  have h2 := h l0[i.toNat] (List.getElem_mem hi)
  rw [Bool.and_eq_true] at h2
  rw [e]
  exact ⟨of_decide_eq_true h2.1, of_decide_eq_true h2.2⟩
def cluster_spread.f (l0 : List S34) (a1 : Int) : Option Int := if 2 ≤ l0.length ∧ l0.length ≤ 12 ∧ 0 ≤ a1 ∧ a1 < (l0.length : Int) ∧ cluster_spread.fits l0 = true then (fixed_Sqrt.f 33 (Ca.sumd (rd_T34 l0 a1).f1 l0 l0.length / ((l0.length : Int) - 1))).bind fun t => some t.1 else none
theorem cluster_spread.calls (A0 : Option Addr) (c0 : Nat) (l0 : List (S34)) (a1 : Int) (r : Int) (w : World) (hr0 : Kd.C k34 w A0 l0.length l0) (hc0 : l0.length ≤ c0) (h : cluster_spread.f l0 a1 = some r) :
    Calls Try.prog 24 #[.slice A0 l0.length c0, .int .i64 a1] w fun e w' => e = .returned (.int .i64 r) ∧ Below w.heap.size w w' := by
  unfold cluster_spread.f at h
  by_cases h0 : 2 ≤ l0.length ∧ l0.length ≤ 12 ∧ 0 ≤ a1 ∧ a1 < (l0.length : Int) ∧ cluster_spread.fits l0 = true
  · rw [if_pos h0] at h
    obtain ⟨p0, p1, p2, p3, p4⟩ := h0
    have hs := Ca.sumd_in (rd_T34 l0 a1).f1 l0 l0.length
    have hq0 : 0 ≤ Ca.sumd (rd_T34 l0 a1).f1 l0 l0.length / ((l0.length : Int) - 1) := Int.ediv_nonneg hs.1 (by omega)
    have hq1 : Ca.sumd (rd_T34 l0 a1).f1 l0 l0.length / ((l0.length : Int) - 1) < 9223372036854775808 := by
      apply Int.ediv_lt_of_lt_mul (by omega)
      omega
    obtain ⟨q, hq, _⟩ := Sq.Sqrt_tells _ hq0 hq1 33 (by omega)
    rw [hq] at h
    obtain rfl : q = r := Option.some.inj h
    exact Ca.spread_any A0 c0 l0 a1 q w hr0 p0 p1 p2 p3 (fun i h0 h1 => cluster_spread.fits_at p4 i h0 h1) hq
  · rw [if_neg h0] at h
    cases h


end Go.Proofs.Ytbcmfmlbagjdoaa.PAll
