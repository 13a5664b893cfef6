/- A slice of structs of 5 whole numbers that was handed in: what its cells say. -/
import Derived.Test.YtfnfmlcngleemaaOpen
import Derived.Below
namespace Go.Proofs.Ytfnfmlcngleemaa.Rk
open Go Go.RowKit
theorem addr_block (a : Addr) (i : Nat) : (a.add i).block = a.block := by unfold Addr.add; split <;> rfl

/-- A slice of such structs: what its cells say. -/
structure Row (w : World) (A : Option Addr) (len cap : Nat) (l : List (Int × Int × Int × Int × Int)) : Prop where
  cnt : l.length = len
  le : len ≤ cap
  nil : A = none → len = 0 ∧ cap = 0
  low : ∀ a, A = some a → 0 < len → a.block < w.heap.size
  cell : ∀ a, A = some a → ∀ k p, l[k]? = some p → w.cell? (a.add (k * 5)) = some (.int .i64 p.1) ∧ w.cell? ⟨(a.add (k * 5)).block, (a.add (k * 5)).off + 1, none⟩ = some (.int .i64 p.2.1) ∧ w.cell? ⟨(a.add (k * 5)).block, (a.add (k * 5)).off + 2, none⟩ = some (.int .i64 p.2.2.1) ∧ w.cell? ⟨(a.add (k * 5)).block, (a.add (k * 5)).off + 3, none⟩ = some (.int .i64 p.2.2.2.1) ∧ w.cell? ⟨(a.add (k * 5)).block, (a.add (k * 5)).off + 4, none⟩ = some (.int .i64 p.2.2.2.2)
theorem Row.below {B : Nat} {w w' : World} {A : Option Addr} {len cap : Nat} {l : List (Int × Int × Int × Int × Int)} (h : Row w A len cap l) (hb : Below B w w') (hB : ∀ a, A = some a → 0 < len → a.block < B) : Row w' A len cap l :=
  ⟨h.cnt, h.le, h.nil, fun a ha hl => Nat.lt_of_lt_of_le (h.low a ha hl) hb.size, fun a ha k p hk => by
    have hl : 0 < len := by
      have := (List.getElem?_eq_some_iff.1 hk).1
      have := h.cnt
      omega
    have hlow := hB a ha hl
    have hc := h.cell a ha k p hk
    have e : ∀ x : Addr, x.block = a.block → w'.cell? x = w.cell? x := fun x hx => hb.cell (p := x) (by rw [hx]; exact hlow)
    exact ⟨(e (a.add (k * 5)) (addr_block _ _)).trans hc.1, (e ⟨(a.add (k * 5)).block, (a.add (k * 5)).off + 1, none⟩ (addr_block _ _)).trans hc.2.1, (e ⟨(a.add (k * 5)).block, (a.add (k * 5)).off + 2, none⟩ (addr_block _ _)).trans hc.2.2.1, (e ⟨(a.add (k * 5)).block, (a.add (k * 5)).off + 3, none⟩ (addr_block _ _)).trans hc.2.2.2.1, (e ⟨(a.add (k * 5)).block, (a.add (k * 5)).off + 4, none⟩ (addr_block _ _)).trans hc.2.2.2.2⟩⟩
end Go.Proofs.Ytfnfmlcngleemaa.Rk
namespace Go.Proofs.Ytfnfmlcngleemaa.Open
open Go.Joins Go.ChangeShapes Go.WideShapes Go.RowKit Go.Deep
section
variable {H : Type} {enc : TypeId × Value → H} {P : Program} {w : World} {base : Nat} {spare : Nat → Bool} {held : Bool}
theorem open_slice_fields {t e : TypeId} {fs : Array Field} {fuel : Nat} {cs : List Value} {x : DataW H × List MemPlace} (ht : P.underlying t = some (.slice e)) (he : P.underlying e = some (.struct fs))
    (hone : oneCellFields P fs = true) (hC : P.cellsOf e = fs.size) (h : DataW.trod enc P w base spare held fuel t cs = some x) :
    (cs = [.slice none 0 0]) ∨
    ∃ (a : Addr) (len cap : Nat), cs = [.slice (some a) len cap] ∧ len ≤ cap ∧
      ∀ i, i < len → ∀ (j : Nat) (f : Field), fs[j]? = some f → ∃ (n : Nat) (v : Value) (y : DataW H × List MemPlace), w.cell? (a.add (i * fs.size + j)) = some v ∧ DataW.trod enc P w base spare held n f.type [v] = some y := by
  rcases open_slice ht h with h0 | ⟨a, len, cap, m, n, D, Pl, hcs, hb, hl, hm, hmm, hx, hi⟩
  · exact .inl h0.1
  · refine .inr ⟨a, len, cap, hcs, hl, fun i hil => ?_⟩
    have him : i < m := by
      rw [hmm]
      split <;> omega
    obtain ⟨cs', hc, ht'⟩ := hi i him
    rw [hC] at hc
    obtain ⟨ys, n', hn', hy, hlen, hyl, hf⟩ := DataW.trod_struct he ht'
    obtain ⟨_, hcl, hat⟩ := World.cells?_some hc
    intro j f hj
    obtain ⟨ho, hk⟩ := hone_of hone j f hj
    have hjl : j < fs.size := (Array.getElem?_eq_some_iff.1 hj).1
    have hcell := hat j hjl
    have hv : cs'[j]? = some (cs'[j]'(by omega)) := List.getElem?_eq_getElem (by omega)
    have h1 := hf j f hj
    rw [ho, hk] at h1
    have hone' : (cs'.drop j).take 1 = [cs'[j]'(by omega)] := by
      rw [List.drop_eq_getElem_cons (by omega)]
      rfl
    rw [hone'] at h1
    have hys : ys[j]? = some (ys[j]'(by omega)) := List.getElem?_eq_getElem (by omega)
    refine ⟨_, _, _, ?_, h1.trans hys⟩
    rw [← Go.Deep.add_add, hcell, hv]

theorem cell_lt {w : World} {x : Addr} {v : Value} (h : w.cell? x = some v) : x.block < w.heap.size := by
  unfold World.cell? at h
  cases hb : w.heap[x.block]? with
  | none => simp [hb] at h
  | some o => exact (Array.getElem?_eq_some_iff.1 hb).1

theorem add_tail (a : Addr) (i j : Nat) (hj : 0 < j) : a.add (i + j) = ⟨(a.add i).block, (a.add i).off + j, none⟩ := by
  unfold Addr.add
  rw [if_neg (by omega)]
  split <;> simp <;> omega

theorem open_rows {t e : TypeId} {f0 f1 f2 f3 f4 : Field} {v : Value} {d : DataW H} {p : List MemPlace} (ht : P.underlying t = some (.slice e)) (he : P.underlying e = some (.struct #[f0, f1, f2, f3, f4]))
    (hone : oneCellFields P #[f0, f1, f2, f3, f4] = true) (hC : P.cellsOf e = 5) (h0 : P.underlying f0.type = some (.int .i64)) (h1 : P.underlying f1.type = some (.int .i64)) (h2 : P.underlying f2.type = some (.int .i64)) (h3 : P.underlying f3.type = some (.int .i64)) (h4 : P.underlying f4.type = some (.int .i64))
    {A : Option Addr} {len cap : Nat} (hv : v = .slice A len cap) (h : DataW.Trod enc P w base spare held t v d p) :
    ∃ l : List (Int × Int × Int × Int × Int), Rk.Row w A len cap l := by
  obtain ⟨fuel, hf⟩ := h
  subst hv
  rcases open_slice_fields ht he hone hC hf with hn | ⟨a, len', cap', hs, hle, hcell⟩
  · have e0 : Value.slice A len cap = .slice none 0 0 := by simpa [Value.cells] using hn
    injection e0 with e1 e2 e3
    subst e1; subst e2; subst e3
    exact ⟨[], rfl, Nat.le_refl _, fun _ => ⟨rfl, rfl⟩, fun _ h => by (cases h), fun _ h => by (cases h)⟩
  · have e0 : Value.slice A len cap = .slice (some a) len' cap' := by simpa [Value.cells] using hs
    injection e0 with e1 e2 e3
    subst e1; subst e2; subst e3
    have hp : ∀ i : Nat, i < len → ∃ q : Int × Int × Int × Int × Int, w.cell? (a.add (i * 5)) = some (.int .i64 q.1) ∧ w.cell? ⟨(a.add (i * 5)).block, (a.add (i * 5)).off + 1, none⟩ = some (.int .i64 q.2.1) ∧ w.cell? ⟨(a.add (i * 5)).block, (a.add (i * 5)).off + 2, none⟩ = some (.int .i64 q.2.2.1) ∧ w.cell? ⟨(a.add (i * 5)).block, (a.add (i * 5)).off + 3, none⟩ = some (.int .i64 q.2.2.2.1) ∧ w.cell? ⟨(a.add (i * 5)).block, (a.add (i * 5)).off + 4, none⟩ = some (.int .i64 q.2.2.2.2) := by
      intro i hi
      obtain ⟨n0, v0, y0, c0, t0⟩ := hcell i hi 0 f0 rfl
      obtain ⟨x0, e0, _⟩ := DataW.trod_int h0 t0
      obtain ⟨n1, v1, y1, c1, t1⟩ := hcell i hi 1 f1 rfl
      obtain ⟨x1, e1, _⟩ := DataW.trod_int h1 t1
      obtain ⟨n2, v2, y2, c2, t2⟩ := hcell i hi 2 f2 rfl
      obtain ⟨x2, e2, _⟩ := DataW.trod_int h2 t2
      obtain ⟨n3, v3, y3, c3, t3⟩ := hcell i hi 3 f3 rfl
      obtain ⟨x3, e3, _⟩ := DataW.trod_int h3 t3
      obtain ⟨n4, v4, y4, c4, t4⟩ := hcell i hi 4 f4 rfl
      obtain ⟨x4, e4, _⟩ := DataW.trod_int h4 t4
      simp at e0 e1 e2 e3 e4
      subst e0; subst e1; subst e2; subst e3; subst e4
      refine ⟨(x0, x1, x2, x3, x4), c0, ?_, ?_, ?_, ?_⟩
      · rw [← add_tail a (i * 5) 1 (by decide)]; exact c1
      · rw [← add_tail a (i * 5) 2 (by decide)]; exact c2
      · rw [← add_tail a (i * 5) 3 (by decide)]; exact c3
      · rw [← add_tail a (i * 5) 4 (by decide)]; exact c4
    have hq : ∀ i : Nat, ∃ q : Int × Int × Int × Int × Int, i < len → (w.cell? (a.add (i * 5)) = some (.int .i64 q.1) ∧ w.cell? ⟨(a.add (i * 5)).block, (a.add (i * 5)).off + 1, none⟩ = some (.int .i64 q.2.1) ∧ w.cell? ⟨(a.add (i * 5)).block, (a.add (i * 5)).off + 2, none⟩ = some (.int .i64 q.2.2.1) ∧ w.cell? ⟨(a.add (i * 5)).block, (a.add (i * 5)).off + 3, none⟩ = some (.int .i64 q.2.2.2.1) ∧ w.cell? ⟨(a.add (i * 5)).block, (a.add (i * 5)).off + 4, none⟩ = some (.int .i64 q.2.2.2.2)) := by
      intro i
      by_cases hi : i < len
      · obtain ⟨q, hq⟩ := hp i hi
        exact ⟨q, fun _ => hq⟩
      · exact ⟨(0, 0, 0, 0, 0), fun h => absurd h hi⟩
    refine ⟨(List.range len).map fun i => Classical.choose (hq i), by simp, hle, fun h => by (cases h), ?_, ?_⟩
    · intro b hb hl0
      injection hb with hb
      subst hb
      have := cell_lt (Classical.choose_spec (hq 0) hl0).1
      rwa [Rk.addr_block] at this
    · intro b hb k q hk
      injection hb with hb
      subst hb
      rw [List.getElem?_map] at hk
      obtain ⟨i, hi, rfl⟩ := Option.map_eq_some_iff.1 hk
      obtain ⟨hi1, hi2⟩ := List.getElem?_eq_some_iff.1 hi
      rw [List.getElem_range] at hi2
      subst hi2
      have hkl : k < len := by simpa using hi1
      exact Classical.choose_spec (hq k) hkl
end
end Go.Proofs.Ytfnfmlcngleemaa.Open
