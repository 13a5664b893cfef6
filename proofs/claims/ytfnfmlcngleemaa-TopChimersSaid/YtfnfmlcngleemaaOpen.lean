/- Structs of whole numbers by value, and slices of such structs, opened: small lemmas for the rows of this seat. -/
import Derived.Lib.SmallJoins
import Derived.OpenShut
import Derived.Deep.Slices
import Derived.Deep.Fields
import Derived.ChangeSame
namespace Go.Proofs.Ytfnfmlcngleemaa.Open
open Go.Joins Go.ChangeShapes Go.WideShapes Go.RowKit Go.Deep

/-- the cells of a struct of whole numbers -/
def ints : List IntKind → List Int → List Value
  | k :: ks, n :: ns => .int k n :: ints ks ns
  | _, _ => []

def wfs : List IntKind → List Int → Prop
  | k :: ks, n :: ns => (Lit.int k n).wf = true ∧ wfs ks ns
  | _, _ => True

theorem cells_ints {H : Type} {enc : TypeId × Value → H} {P : Program} {w : World} {base : Nat} {spare : Nat → Bool} {held : Bool} : ∀ (ks : List IntKind) (l : List Value) (g : Nat → TypeId),
    l.length = ks.length → (∀ j k, ks[j]? = some k → P.underlying (g j) = some (.int k)) →
    (∀ j v, l[j]? = some v → ∃ n y, DataW.trod enc P w base spare held n (g j) [v] = some y) →
    ∃ ns : List Int, ns.length = ks.length ∧ l = ints ks ns ∧ wfs ks ns := by
  intro ks
  induction ks with
  | nil =>
    intro l g hl _ _
    have : l = [] := by cases l with
      | nil => rfl
      | cons a r => simp at hl
    subst this
    exact ⟨[], rfl, rfl, trivial⟩
  | cons k ks ih =>
    intro l g hl hk ht
    cases l with
    | nil => simp at hl
    | cons v l =>
      obtain ⟨n, y, h0⟩ := ht 0 v rfl
      obtain ⟨a, e, _, wa⟩ := DataW.trod_int (hk 0 k rfl) h0
      obtain ⟨ns, hn, hl', hw⟩ := ih l (fun j => g (j + 1)) (by simpa using hl) (fun j k' h => hk (j + 1) k' (by simpa using h)) (fun j v' h => ht (j + 1) v' (by simpa using h))
      simp at e
      exact ⟨a :: ns, by simp [hn], by simp [ints, e, hl'], wa, hw⟩

theorem open_ints_agg {H : Type} {enc : TypeId × Value → H} {P : Program} {w : World} {base : Nat} {spare : Nat → Bool} {held : Bool} {r : Reach} {b0 : Nat} {t : TypeId} {fs : Array Field} {v : Value} {d : DataW H} {p : List MemPlace}
    (ks : List IntKind) (hs : P.underlying t = some (.struct fs)) (hone : oneCellFields P fs = true) (hC : P.cellsOf t = fs.size) (hks : ks.length = fs.size)
    (hk : fs.toList.map (fun f => P.underlying f.type) = ks.map fun k => some (.int k))
    (hv : Value.okWide P w r b0 t v) (h : DataW.Trod enc P w base spare held t v d p) :
    ∃ ns : List Int, ns.length = ks.length ∧ v = .agg (ints ks ns).toArray ∧ wfs ks ns := by
  obtain ⟨cs, rfl, hsz⟩ := okWide_struct hs hv
  obtain ⟨fuel, hf⟩ := h
  obtain ⟨xs, n, _, _, _, hlen, hg⟩ := DataW.trod_struct hs hf
  have hcs : cs.toList.length = ks.length := by rw [Array.length_toList, hsz, hC, hks]
  obtain ⟨ns, hn, hl, hw⟩ := cells_ints (enc := enc) (w := w) (base := base) (spare := spare) (held := held) (P := P) ks cs.toList (fun j => ((fs[j]?).map (·.type)).getD 0) hcs
    (fun j k hj => by
      have e : (fs.toList.map (fun f => P.underlying f.type))[j]? = (ks.map fun k => some (.int k))[j]? := by rw [hk]
      rw [List.getElem?_map, List.getElem?_map, hj] at e
      cases hfj : fs[j]? with
      | none => simp [hfj] at e
      | some f => simp [hfj] at e; simpa using e)
    (fun j v hj => by
      have hlt : j < cs.toList.length := (List.getElem?_eq_some_iff.1 hj).1
      have hjl : j < fs.size := by rw [hcs, hks] at hlt; exact hlt
      have hf' := hg j fs[j] (by simp [hjl])
      obtain ⟨ho, hc1⟩ := hone_of hone j fs[j] (by simp [hjl])
      rw [ho, hc1] at hf'
      have e1 : (((Value.agg cs).cells.toList.drop j).take 1) = [v] := by
        have e2 : (Value.agg cs).cells.toList = cs.toList := rfl
        rw [e2, List.drop_eq_getElem_cons hlt]
        have e3 : cs.toList[j] = v := by
          have := List.getElem?_eq_getElem hlt
          rw [this] at hj
          exact Option.some.inj hj
        rw [e3]
        rfl
      rw [e1] at hf'
      have hxl : j < xs.length := by rw [hlen]; exact hjl
      refine ⟨n, xs[j], ?_⟩
      simp only [hjl, Array.getElem?_eq_getElem, Option.map_some, Option.getD_some]
      rw [hf']
      simp [hxl])
  exact ⟨ns, hn, by rw [← hl], hw⟩

theorem len4 {l : List Int} (h : l.length = 4) : ∃ a b c d, l = [a, b, c, d] := by
  match l, h with
  | [a, b, c, d], _ => exact ⟨a, b, c, d, rfl⟩
theorem len3 {l : List Int} (h : l.length = 3) : ∃ a b c, l = [a, b, c] := by
  match l, h with
  | [a, b, c], _ => exact ⟨a, b, c, rfl⟩
theorem len2 {l : List Int} (h : l.length = 2) : ∃ a b, l = [a, b] := by
  match l, h with
  | [a, b], _ => exact ⟨a, b, rfl⟩
theorem len5 {l : List Int} (h : l.length = 5) : ∃ a b c d e, l = [a, b, c, d, e] := by
  match l, h with
  | [a, b, c, d, e], _ => exact ⟨a, b, c, d, e, rfl⟩
theorem len6 {l : List Int} (h : l.length = 6) : ∃ a b c d e f, l = [a, b, c, d, e, f] := by
  match l, h with
  | [a, b, c, d, e, f], _ => exact ⟨a, b, c, d, e, f, rfl⟩
end Go.Proofs.Ytfnfmlcngleemaa.Open
