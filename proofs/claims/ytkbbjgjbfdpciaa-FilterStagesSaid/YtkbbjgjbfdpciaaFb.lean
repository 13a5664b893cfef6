/- The filter's block, and what turns it. -/
import Derived.Test.YtkbbjgjbfdpciaaPAllx0
import Derived.StillTailTactics
import Derived.Handy
namespace Go.Proofs.Ytkbbjgjbfdpciaa.Fi
open Go Go.RowKit Go.Proofs.YtkbbjgjbfdpciaaW.PrintWords Go.Proofs.YtkbbjgjbfdpciaaW.PrintLast Go.Proofs.YtkbbjgjbfdpciaaW.PrintMore Go.Proofs.Ytkbbjgjbfdpciaa.PAll
attribute [local go_sem] max2_int min2_int max_two min_two max_three min_three max_four min_four
set_option linter.unusedVariables false
set_option linter.unusedSimpArgs false

/-- From w to w' nothing has turned but block b, and what is new. -/
structure Upd (w w' : World) (b : Nat) : Prop where
  os : w'.os = w.os
  tape : w'.tape = w.tape
  output : w'.output = w.output
  size : w.heap.size ≤ w'.heap.size
  block : ∀ k, k < w.heap.size → k ≠ b → w'.heap[k]? = w.heap[k]?
theorem Upd.refl (w : World) (b : Nat) : Upd w w b := ⟨rfl, rfl, rfl, Nat.le_refl _, fun _ _ _ => rfl⟩
theorem Upd.trans {w w1 w2 : World} {b : Nat} (h : Upd w w1 b) (k : Upd w1 w2 b) : Upd w w2 b :=
  ⟨k.os.trans h.os, k.tape.trans h.tape, k.output.trans h.output, Nat.le_trans h.size k.size, fun i hi hb => (k.block i (Nat.lt_of_lt_of_le hi h.size) hb).trans (h.block i hi hb)⟩
theorem Upd.of_below {w w1 : World} {b : Nat} (h : Below w.heap.size w w1) : Upd w w1 b := ⟨h.os, h.tape, h.output, h.size, fun i hi _ => h.block i hi⟩
theorem Upd.below {w w1 : World} {b : Nat} {B : Nat} {w0 : World} (h : Below B w0 w) (k : Upd w w1 b) (hB : B ≤ b) (hs : B ≤ w.heap.size) : Below B w0 w1 :=
  h.trans ⟨k.os, k.tape, k.output, k.size, fun i hi => k.block i (Nat.lt_of_lt_of_le hi hs) (by omega)⟩
theorem Upd.drew {w w1 : World} {b : Nat} (h : Upd w w1 b) : Upd w w1.drew b := ⟨h.os, h.tape, h.output, h.size, h.block⟩
theorem Upd.drewN {w w1 : World} {b : Nat} (h : Upd w w1 b) (n : Nat) : Upd w (w1.drewN n) b := ⟨h.os, h.tape, h.output, h.size, h.block⟩
theorem Upd.alloc {w w1 : World} {b : Nat} (h : Upd w w1 b) (o : Obj) : Upd w (w1.alloc o) b :=
  h.trans (Upd.of_below ((Below.refl _ _).alloc (Nat.le_refl _) o))
theorem Upd.set {w w1 : World} {b : Nat} (h : Upd w w1 b) (i : Nat) (u : Value) : Upd w (w1.setCell ⟨b, i, none⟩ u) b :=
  ⟨h.os, h.tape, h.output, by simpa [World.setCell] using h.size, fun k hk hb => (Below.heap_setCell w1 ⟨b, i, none⟩ u k hb).trans (h.block k hk hb)⟩
theorem Upd.far {w w1 : World} {b : Nat} (h : Upd w w1 b) {g : Nat} (hg : w.heap.size ≤ g) (i : Nat) (u : Value) : Upd w (w1.setCell ⟨g, i, none⟩ u) b :=
  ⟨h.os, h.tape, h.output, by simpa [World.setCell] using h.size, fun k hk hb => (Below.heap_setCell w1 ⟨g, i, none⟩ u k (by show k ≠ g; omega)).trans (h.block k hk hb)⟩
theorem Upd.blk {w w1 : World} {b g : Nat} {o : Obj} (h : Upd w w1 b) (hg : w.heap[g]? = some o) (hne : g ≠ b) : w1.heap[g]? = some o := (h.block g (blk_lt hg) hne).trans hg

structure Drawn1 (w w2 : World) : Prop where
  heap : w2.heap = w.heap
  os : w2.os = w.os
  tape : w2.tape = w.tape
  output : w2.output = w.output
theorem Drawn1.upd {w w2 : World} (h : Drawn1 w w2) (b : Nat) : Upd w w2 b := ⟨h.os, h.tape, h.output, by rw [h.heap]; exact Nat.le_refl _, fun k _ _ => by rw [h.heap]⟩
theorem Drawn1.blk {w w2 : World} (h : Drawn1 w w2) {g : Nat} {o : Obj} (hg : w.heap[g]? = some o) : w2.heap[g]? = some o := by rw [h.heap]; exact hg
theorem region_still_tail {P : Program} {id : Nat} {Q : Exit → Act → World → Prop} {a : Act} {w : World} {l : List Oper} (n : Nat) (hm : P.follows .mixedOrders = true) (hB : Region.lexTailB .any l.toArray n = true)
    (h : ∀ w2, Drawn1 w w2 → wpStill P l.toArray w2 (fun a' => wpList P l.toArray Q (l.drop n) a' w2) (l.take n) a) : (Code.region id l.toArray true).wp P Q a w :=
  wp_region_still_tail n hm hB (h _ ⟨rfl, rfl, rfl, rfl⟩)

/-- The filter's cells. -/
structure FCells (cs : Array Value) (tol : Int) (l : List S29) (fresh : Int) : Prop where
  size : cs.size = 35
  one : ∀ v ∈ cs.toList, v.oneCell' = true
  tol : cs[0]? = some (.int .i64 tol)
  n : cs[33]? = some (.int .i64 l.length)
  fresh : cs[34]? = some (.int .i64 fresh)
  len : l.length ≤ 8
  at0 : ∀ i x, l[i]? = some x → cs[1 + i * 4]? = some (.int .i64 x.f0)
  at1 : ∀ i x, l[i]? = some x → cs[1 + i * 4 + 1]? = some (.int .i64 x.f1)
  at2 : ∀ i x, l[i]? = some x → cs[1 + i * 4 + 2]? = some (.int .i64 x.f2)
  at3 : ∀ i x, l[i]? = some x → cs[1 + i * 4 + 3]? = some (.int .i64 x.f3)
/-- The filter's block: l its stages. -/
def Fil (w : World) (b : Nat) (tol : Int) (l : List S29) (fresh : Int) : Prop :=
  ∃ cs : Array Value, w.heap[b]? = some (.cells cs 46 (0, 0)) ∧ FCells cs tol l fresh
section
variable {w w1 : World} {b : Nat} {tol : Int} {l : List S29} {fresh : Int}
theorem Fil.lt (h : Fil w b tol l fresh) : b < w.heap.size := by obtain ⟨cs, h, _⟩ := h; exact blk_lt h
theorem Fil.len (h : Fil w b tol l fresh) : l.length ≤ 8 := by obtain ⟨cs, _, h⟩ := h; exact h.len
theorem Fil.upd {g : Nat} (h : Fil w b tol l fresh) (k : Upd w w1 g) (hne : b ≠ g) : Fil w1 b tol l fresh := by
  obtain ⟨cs, hb, hc⟩ := h; exact ⟨cs, k.blk hb hne, hc⟩
theorem Fil.below (h : Fil w b tol l fresh) (k : Below w.heap.size w w1) : Fil w1 b tol l fresh := by
  obtain ⟨cs, hb, hc⟩ := h; exact ⟨cs, blk_below hb k, hc⟩
theorem Fil.alloc (h : Fil w b tol l fresh) (o : Obj) : Fil (w.alloc o) b tol l fresh := h.below ((Below.refl _ _).alloc (Nat.le_refl _) o)
theorem Fil.drewN (h : Fil w b tol l fresh) (n : Nat) : Fil (w.drewN n) b tol l fresh := h
theorem Fil.far (h : Fil w b tol l fresh) {p : Addr} (hp : b ≠ p.block) (u : Value) : Fil (w.setCell p u) b tol l fresh := by
  obtain ⟨cs, hb, hc⟩ := h; exact ⟨cs, blk_far hb hp u, hc⟩
theorem Fil.cells (h : Fil w b tol l fresh) : w.cell? ⟨b, 0, none⟩ = some (.int .i64 tol) ∧ w.cell? ⟨b, 33, none⟩ = some (.int .i64 l.length) ∧ w.cell? ⟨b, 34, none⟩ = some (.int .i64 fresh) := by
  obtain ⟨cs, hb, hc⟩ := h
  exact ⟨(blk_cell hb 0).trans hc.tol, (blk_cell hb 33).trans hc.n, (blk_cell hb 34).trans hc.fresh⟩
theorem Fil.frozen (h : Fil w b tol l fresh) (i : Nat) : w.frozen? ⟨b, i, none⟩ = false := by
  obtain ⟨cs, hb, hc⟩ := h
  exact blk_frozen hb i
theorem Fil.stage (h : Fil w b tol l fresh) {i : Nat} {x : S29} (hx : l[i]? = some x) :
    w.cell? ⟨b, 1 + i * 4, none⟩ = some (.int .i64 x.f0) ∧ w.cell? ⟨b, 1 + i * 4 + 1, none⟩ = some (.int .i64 x.f1) ∧ w.cell? ⟨b, 1 + i * 4 + 2, none⟩ = some (.int .i64 x.f2) ∧ w.cell? ⟨b, 1 + i * 4 + 3, none⟩ = some (.int .i64 x.f3) := by
  obtain ⟨cs, hb, hc⟩ := h
  exact ⟨(blk_cell hb _).trans (hc.at0 i x hx), (blk_cell hb _).trans (hc.at1 i x hx), (blk_cell hb _).trans (hc.at2 i x hx), (blk_cell hb _).trans (hc.at3 i x hx)⟩
end

theorem Fil.drawn1 {w w1 : World} {b : Nat} {tol : Int} {l : List S29} {fresh : Int} (h : Fil w b tol l fresh) (k : Drawn1 w w1) : Fil w1 b tol l fresh := by
  obtain ⟨cs, hb, hc⟩ := h; exact ⟨cs, k.blk hb, hc⟩
theorem idx44 (b k : Nat) (h : k < 8) : ∀ w, Sem.run Try.prog (Instr.indexAt 44 (.pointer (some ⟨b, 1, none⟩)) (.int .i64 (k : Int))) w = .ok (.pointer (some ⟨b, 1 + k * 4, none⟩)) w := by
  intro w
  rw [run_indexAt_array (h := Try.underlying44), if_pos ⟨by omega, by show (k : Int) < ((8 : Nat) : Int); omega⟩]
  show (Sem.run Try.prog (sizeOf 29) w).andThen _ = _
  rw [Try.sizeOf29]
  show Result.ok (Value.pointer (some (Addr.add ⟨b, 1, none⟩ (k * 4)))) w = _
  rw [Addr.add_lit]
theorem wrapk (k : Nat) (h : k < 100) : IntKind.i64.wrap (k : Int) = (k : Int) := by simp [IntKind.wrap, IntKind.bits, IntKind.signed]; omega

set_option maxHeartbeats 1000000 in
theorem last_any (b : Nat) (tol : Int) (l : List S29) (k : Nat) (x : S29) (fresh : Int) (w : World) (h : Fil w b tol l fresh) (hk : l.length = k + 1) (hx : l[k]? = some x) :
    Calls Try.prog 21 #[.pointer (some ⟨b, 0, none⟩)] w fun e w' => e = .returned (.int .i64 x.f3) ∧ Drawn0 w w' := by
  have h8 : k < 8 := by have := h.len; omega
  obtain ⟨c0, c1, c2⟩ := h.cells
  obtain ⟨s0, s1, s2, s3⟩ := h.stage hx
  have e1 : (l.length : Int) = (k : Int) + 1 := by omega
  rw [e1] at c1
  have e5 := wrapk k (by omega)
  have e6 := idx44 b k h8
  go_enter Try.func21, Try.ntmps21
  go_wp2
  go_region_held3 (fun w' => w'.cell? ⟨b, 33, none⟩ = some (.int .i64 ((k : Int) + 1)) ∧ w'.cell? ⟨b, 1 + k * 4 + 3, none⟩ = some (.int .i64 x.f3))
    (go_keep) (fail)
  go_wp2
  all_goals
    go_ret
    exact ⟨rfl, ⟨1, rfl⟩⟩

/-- What New returns, and what is read of the filter. -/
theorem fcells_new (tol : Int) : FCells #[.int .i64 tol, .int .i64 0, .int .i64 0, .int .i64 0, .int .i64 0, .int .i64 0, .int .i64 0, .int .i64 0, .int .i64 0, .int .i64 0, .int .i64 0, .int .i64 0, .int .i64 0, .int .i64 0, .int .i64 0, .int .i64 0, .int .i64 0, .int .i64 0, .int .i64 0, .int .i64 0, .int .i64 0, .int .i64 0, .int .i64 0, .int .i64 0, .int .i64 0, .int .i64 0, .int .i64 0, .int .i64 0, .int .i64 0, .int .i64 0, .int .i64 0, .int .i64 0, .int .i64 0, .int .i64 0, .int .i64 (-9223372036854775808)] tol [] (-9223372036854775808) :=
  ⟨rfl, (by intro v hv; simp at hv; rcases hv with rfl | rfl | rfl <;> rfl), rfl, rfl, rfl, Nat.zero_le _, (fun _ _ h => by simp at h), (fun _ _ h => by simp at h), (fun _ _ h => by simp at h), (fun _ _ h => by simp at h)⟩
set_option maxRecDepth 8000 in
set_option maxHeartbeats 1000000 in
theorem new_no (tol : Int) (w : World) (h : tol < 0 ∨ 500000 < tol) : Calls Try.prog 8 #[.int .i64 tol] w fun e w' => e = .returned (.pointer none) ∧ w = w' := by
  go_enter Try.func8, Try.ntmps8
  go_wp2
  all_goals (go_ret; exact ⟨rfl, rfl⟩)
set_option maxRecDepth 8000 in
set_option maxHeartbeats 1000000 in
theorem new_ok (tol : Int) (w : World) (h0 : 0 ≤ tol) (h1 : tol ≤ 500000) :
    Calls Try.prog 8 #[.int .i64 tol] w fun e w' => e = .returned (.pointer (some ⟨w.heap.size, 0, none⟩)) ∧ Fil w' w.heap.size tol [] (-9223372036854775808) ∧ Below w.heap.size w w' := by
  have e1 : ¬ tol < 0 := by omega
  have e2 : ¬ 500000 < tol := by omega
  have hF := fcells_new tol
  have R := blk_new w (.cells #[.int .i64 tol, .int .i64 0, .int .i64 0, .int .i64 0, .int .i64 0, .int .i64 0, .int .i64 0, .int .i64 0, .int .i64 0, .int .i64 0, .int .i64 0, .int .i64 0, .int .i64 0, .int .i64 0, .int .i64 0, .int .i64 0, .int .i64 0, .int .i64 0, .int .i64 0, .int .i64 0, .int .i64 0, .int .i64 0, .int .i64 0, .int .i64 0, .int .i64 0, .int .i64 0, .int .i64 0, .int .i64 0, .int .i64 0, .int .i64 0, .int .i64 0, .int .i64 0, .int .i64 0, .int .i64 0, .int .i64 (-9223372036854775808)] 46)
  have U := (Below.refl w.heap.size w).alloc (Nat.le_refl _) (.cells #[.int .i64 tol, .int .i64 0, .int .i64 0, .int .i64 0, .int .i64 0, .int .i64 0, .int .i64 0, .int .i64 0, .int .i64 0, .int .i64 0, .int .i64 0, .int .i64 0, .int .i64 0, .int .i64 0, .int .i64 0, .int .i64 0, .int .i64 0, .int .i64 0, .int .i64 0, .int .i64 0, .int .i64 0, .int .i64 0, .int .i64 0, .int .i64 0, .int .i64 0, .int .i64 0, .int .i64 0, .int .i64 0, .int .i64 0, .int .i64 0, .int .i64 0, .int .i64 0, .int .i64 0, .int .i64 0, .int .i64 (-9223372036854775808)] 46)
  have H : Fil (w.alloc _) w.heap.size tol [] (-9223372036854775808) := ⟨_, R, hF⟩
  replace H := Aside0.mk H
  replace U := Aside0.mk U
  clear hF R
  go_enter Try.func8, Try.ntmps8
  go_wp2
  all_goals (go_ret; exact ⟨rfl, H.out, U.out⟩)
end Go.Proofs.Ytkbbjgjbfdpciaa.Fi
