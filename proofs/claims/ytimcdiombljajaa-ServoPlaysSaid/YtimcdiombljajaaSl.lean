/- The deeds: a slice of structs of three numbers; the first 200 of them. -/
import Derived.Test.YtimcdiombljajaaServoChecks
namespace Go.Proofs.Ytimcdiombljajaa.Sv
open Go Go.RowKit Go.Proofs.YtimcdiombljajaaW.PrintWords Go.Proofs.YtimcdiombljajaaW.PrintLast Go.Proofs.YtimcdiombljajaaW.PrintMore Go.Proofs.Ytimcdiombljajaa.PAll Go.Proofs.Ytimcdiombljajaa.PureDiv
attribute [local go_sem] max2_int min2_int max_two min_two max_three min_three max_four min_four
set_option linter.unusedVariables false
set_option linter.unusedSimpArgs false

set_option maxHeartbeats 1000000 in
theorem first_nil (w : World) : Calls Try.prog 16 #[.slice none 0 0] w fun e w' => e = .returned (.slice none 0 0) ∧ w = w' := by
  go_enter Try.func16, Try.ntmps16
  go_wp2
  all_goals (go_ret; exact ⟨rfl, rfl⟩)
set_option maxHeartbeats 1000000 in
theorem first_some (a : Addr) (len cap : Nat) (hl : len ≤ cap) (w : World) : Calls Try.prog 16 #[.slice (some a) len cap] w fun e w' => e = .returned (.slice (some a) (min len 200) cap) ∧ w = w' := by
  go_enter Try.func16, Try.ntmps16
  go_wp2
  · have e : min len 200 = 200 := by omega
    rw [e]
    go_ret
    exact ⟨rfl, rfl⟩
  · have e : min len 200 = len := by omega
    rw [e]
    go_ret
    exact ⟨rfl, rfl⟩

theorem addr_block (a : Addr) (i : Nat) : (a.add i).block = a.block := by unfold Addr.add; split <;> rfl

/-- A slice of deeds: what its cells say. -/
structure Deeds (w : World) (A : Option Addr) (len cap : Nat) (l : List (Int × Int × Int)) : Prop where
  cnt : l.length = len
  le : len ≤ cap
  nil : A = none → len = 0 ∧ cap = 0
  low : ∀ a, A = some a → 0 < len → a.block < w.heap.size
  cell : ∀ a, A = some a → ∀ k p, l[k]? = some p → w.cell? (a.add (k * 3)) = some (.int .i64 p.1) ∧ w.cell? ⟨(a.add (k * 3)).block, (a.add (k * 3)).off + 1, none⟩ = some (.int .i64 p.2.1) ∧ w.cell? ⟨(a.add (k * 3)).block, (a.add (k * 3)).off + 2, none⟩ = some (.int .i64 p.2.2)

theorem first_any {w0 : World} {A : Option Addr} {len cap : Nat} {l : List (Int × Int × Int)} (h : Deeds w0 A len cap l) (w : World) :
    Calls Try.prog 16 #[.slice A len cap] w fun e w' => e = .returned (.slice A (min len 200) cap) ∧ w = w' := by
  cases A with
  | none =>
    obtain ⟨rfl, rfl⟩ := h.nil rfl
    exact first_nil w
  | some a => exact first_some a len cap h.le w
theorem Deeds.first {w : World} {A : Option Addr} {len cap : Nat} {l : List (Int × Int × Int)} (h : Deeds w A len cap l) : Deeds w A (min len 200) cap (l.take 200) :=
  ⟨by rw [List.length_take, h.cnt, Nat.min_comm], by have := h.le; omega, fun hA => by have := h.nil hA; omega, fun a ha hl => h.low a ha (by omega), fun a ha k p hk => h.cell a ha k p (by
    rw [List.getElem?_take] at hk
    split at hk
    · exact hk
    · cases hk)⟩
theorem Deeds.below {w w' : World} {A : Option Addr} {len cap : Nat} {l : List (Int × Int × Int)} (h : Deeds w A len cap l) (hb : Below w.heap.size w w') : Deeds w' A len cap l :=
  ⟨h.cnt, h.le, h.nil, fun a ha hl => Nat.lt_of_lt_of_le (h.low a ha hl) hb.size, fun a ha k p hk => by
    have hl : 0 < len := by
      have := (List.getElem?_eq_some_iff.1 hk).1
      have := h.cnt
      omega
    have hlow := h.low a ha hl
    have hc := h.cell a ha k p hk
    have e : ∀ x : Addr, x.block = a.block → w'.cell? x = w.cell? x := fun x hx => hb.cell (p := x) (by rw [hx]; exact hlow)
    exact ⟨(e (a.add (k * 3)) (addr_block _ _)).trans hc.1, (e ⟨(a.add (k * 3)).block, (a.add (k * 3)).off + 1, none⟩ (addr_block _ _)).trans hc.2.1, (e ⟨(a.add (k * 3)).block, (a.add (k * 3)).off + 2, none⟩ (addr_block _ _)).trans hc.2.2⟩⟩

end Go.Proofs.Ytimcdiombljajaa.Sv
