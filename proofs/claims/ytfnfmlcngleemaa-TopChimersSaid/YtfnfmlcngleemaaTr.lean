/- slices.Reverse of runs. -/
import Derived.Test.YtfnfmlcngleemaaPAllx0
import Derived.Handy
import Derived.Shelf.SlicesQ.Reverse
namespace Go.Proofs.Ytfnfmlcngleemaa.Tr
open Go Go.RowKit Go.Proofs.YtfnfmlcngleemaaW.PrintWords Go.Proofs.YtfnfmlcngleemaaW.PrintLast Go.Proofs.YtfnfmlcngleemaaW.PrintMore Go.Proofs.Ytfnfmlcngleemaa.PAll
set_option linter.unusedVariables false
set_option linter.unusedSimpArgs false

/-- a run's cells -/
def enc3 (x : S44) : List Value := [.int .i64 x.f0, .int .i64 x.f1, .int .i64 x.f2]
instance : Inhabited S44 := ⟨z44⟩
/-- the cells of a list of runs, one behind the other -/
def flat (l : List S44) : List Value := l.flatMap enc3
theorem flat_cons (a : S44) (r : List S44) : flat (a :: r) = enc3 a ++ flat r := by unfold flat; rw [List.flatMap_cons]
theorem flat_length (l : List S44) : (flat l).length = l.length * 3 := by
  induction l with
  | nil => rfl
  | cons a r ih => rw [flat_cons, List.length_append, ih]; simp [enc3]; omega
theorem flat_get : ∀ (l : List S44) (j : Nat) (u : Value), (flat l)[j]? = some u → ∃ x, l[j / 3]? = some x ∧ (enc3 x)[j % 3]? = some u := by
  intro l
  induction l with
  | nil => intro j u h; simp [flat] at h
  | cons a r ih =>
    intro j u h
    rw [flat_cons] at h
    by_cases hj : j < 3
    · rw [List.getElem?_append_left (by simpa [enc3] using hj)] at h
      rw [Nat.div_eq_of_lt hj, Nat.mod_eq_of_lt hj]
      exact ⟨a, rfl, h⟩
    · rw [List.getElem?_append_right (by simp [enc3]; omega)] at h
      obtain ⟨x, hx, hu⟩ := ih (j - 3) u h
      refine ⟨x, ?_, ?_⟩
      · have : j / 3 = (j - 3) / 3 + 1 := by omega
        rw [this, List.getElem?_cons_succ]; exact hx
      · have : j % 3 = (j - 3) % 3 := by omega
        rw [this]; exact hu
theorem flat_put : ∀ (l : List S44) (i : Nat) (x : S44) (j : Nat) (u : Value), l[i]? = some x → (enc3 x)[j]? = some u → (flat l)[i * 3 + j]? = some u := by
  intro l
  induction l with
  | nil => intro i x j u h; simp at h
  | cons a r ih =>
    intro i x j u h hu
    have hj : j < 3 := by have := (List.getElem?_eq_some_iff.1 hu).1; simpa [enc3] using this
    rw [flat_cons]
    cases i with
    | zero =>
      simp at h
      subst h
      rw [List.getElem?_append_left (by simp [enc3]; omega), Nat.zero_mul, Nat.zero_add]
      exact hu
    | succ i =>
      rw [List.getElem?_cons_succ] at h
      rw [List.getElem?_append_right (by simp [enc3]; omega)]
      have : (i + 1) * 3 + j - (enc3 a).length = i * 3 + j := by simp [enc3]; omega
      rw [this]
      exact ih i x j u h hu
theorem enc_one (x : S44) : ∀ v ∈ enc3 x, v.oneCell' = true := by
  intro v hv
  simp [enc3] at hv
  rcases hv with rfl | rfl | rfl <;> rfl
theorem flat_one (l : List S44) : ∀ v ∈ flat l, v.oneCell' = true := by
  intro v hv
  unfold flat at hv
  rw [List.mem_flatMap] at hv
  obtain ⟨x, _, hx⟩ := hv
  exact enc_one x v hx
theorem flat_part (l : List S44) (j : Nat) (p : S44) (h : l[j]? = some p) : ((flat l).drop (j * 3)).take 3 = enc3 p := by
  apply List.ext_getElem?
  intro i
  rw [List.getElem?_take]
  by_cases hi : i < 3
  · rw [if_pos hi, List.getElem?_drop]
    have hu : (enc3 p)[i]? = some ((enc3 p)[i]'(by show i < 3; exact hi)) := List.getElem?_eq_getElem _
    rw [flat_put l j p i _ h hu, hu]
  · rw [if_neg hi]
    exact (List.getElem?_eq_none (by show 3 ≤ i; omega)).symm
theorem reps_flat (w : World) (base : Nat) (ok : Nat → Prop) (l : List S44) : Reps (k44.M w base ok) 3 l (flat l) :=
  ⟨flat_length l, fun j p hj => by rw [flat_part l j p hj]; exact k44_mkM w base ok p⟩
theorem row_of_own {w : World} {base : Nat} {v : Value} {l : List S44} (h : w.ownsRow base 44 3 v l.length (flat l)) : Kd.R k44 44 w base (fun _ => True) v l :=
  ⟨fun _ _ => trivial, flat l, h, reps_flat _ _ _ l⟩
theorem flat_of_reps {w : World} {base : Nat} {ok : Nat → Prop} {l : List S44} {cs : List Value} (h : Reps (k44.M w base ok) 3 l cs) : cs = flat l := by
  apply List.ext_getElem?
  intro i
  by_cases hi : i < l.length * 3
  · have hj : i / 3 < l.length := by omega
    have hx := List.getElem?_eq_getElem hj
    have h1 := k44_openM (h.2 (i / 3) _ hx)
    have h2 : ((cs.drop (i / 3 * 3)).take 3)[i % 3]? = (enc3 l[i / 3])[i % 3]? := by rw [h1]; rfl
    rw [List.getElem?_take, if_pos (by omega), List.getElem?_drop, show i / 3 * 3 + i % 3 = i from by omega] at h2
    rw [h2]
    have hu : (enc3 l[i / 3])[i % 3]? = some ((enc3 l[i / 3])[i % 3]'(by show i % 3 < 3; omega)) := List.getElem?_eq_getElem _
    rw [hu, ← flat_put l (i / 3) _ (i % 3) _ hx hu, show i / 3 * 3 + i % 3 = i from by omega]
  · rw [List.getElem?_eq_none (by rw [h.1]; omega), List.getElem?_eq_none (by rw [flat_length]; omega)]
theorem own_of_row {w : World} {base : Nat} {ok : Nat → Prop} {v : Value} {l : List S44} (h : Kd.R k44 44 w base ok v l) : w.ownsRow base 44 3 v l.length (flat l) := by
  obtain ⟨_, inner, ho, hr⟩ := h
  rw [flat_of_reps hr] at ho
  exact ho



open Go.Sort in
theorem reverse_some (base g cap : Nat) (l : List S44) (w : World) (h : w.ownsRow base 44 3 (.slice (some ⟨g, 0, none⟩) l.length cap) l.length (flat l)) (h1 : l.length ≤ 1000) :
    Calls Try.prog 16 #[.slice (some ⟨g, 0, none⟩) l.length cap] w fun e w' => e = .returned (.tuple #[]) ∧ w'.ownsRow base 44 3 (.slice (some ⟨g, 0, none⟩) l.length cap) l.length (flat l.reverse) ∧ (base ≤ w.heap.size → Below base w w') ∧ w.heap.size ≤ w'.heap.size ∧ ∀ k, k < w.heap.size → k ≠ g → w'.heap[k]? = w.heap[k]? := by
  obtain ⟨_, h0 | ⟨g', cap', cur, e0, hg, hh, hcap, hmax, hsz, htake⟩⟩ := h
  · exact absurd h0.1 (by simp)
  · injection e0 with e1 e2 e3
    injection e1 with e1
    injection e1 with e1
    subst e1
    subst e3
    have hlt : g < w.heap.size := blk_lt hh
    have hH : HoldsK enc3 3 w g 0 l.toArray := by
      intro j hj
      rw [size_flatK] at hj
      have hj' : j < l.length * 3 := by simpa using hj
      have hlt : j / 3 < l.length := by omega
      rw [get_flatK _ _ _ _ hj]
      have hx : l[j / 3]? = some l[j / 3] := List.getElem?_eq_getElem hlt
      have e1 : l.toArray[j / 3]! = l[j / 3] := by rw [getElem!_pos l.toArray (j / 3) (by simpa using hlt)]; simp
      have h4 : j % 3 < (enc3 l[j / 3]).length := by show j % 3 < 3; omega
      have hu : (enc3 l[j / 3])[j % 3]? = some ((enc3 l[j / 3])[j % 3]!) := by rw [getElem!_pos (enc3 l[j / 3]) _ h4]; exact List.getElem?_eq_getElem h4
      have h5 := flat_put l (j / 3) _ (j % 3) _ hx hu
      rw [show j / 3 * 3 + j % 3 = j from by omega, ← htake, List.getElem?_take, if_pos hj', Array.getElem?_toList] at h5
      rw [e1, Nat.zero_add]
      exact ⟨(blk_cell hh j).trans h5, blk_frozen hh j⟩
    have hcon := AnyQ.slices_Reverse Try.revRun 3 Try.isAgg44 Try.sizeOf44 enc3 (fun _ => rfl) enc_one g 0 cap l.toArray w hH (by simp; omega)
    change Calls Try.prog 16 _ _ _ at hcon
    refine hcon.mono ?_
    rintro e w' ⟨rfl, n, rfl⟩
    have er : l.toArray.reverse = l.reverse.toArray := by simp
    rw [er]
    have hkeep : ∀ k, k < w.heap.size → k ≠ g → (putRowK enc3 3 (Sort.ahead w n) g 0 l.reverse.toArray).heap[k]? = w.heap[k]? := by
      intro k hk hne
      show (w.heap.modify g _)[k]? = w.heap[k]?
      rw [Array.getElem?_modify, if_neg (by omega)]
    have hsize : (putRowK enc3 3 (Sort.ahead w n) g 0 l.reverse.toArray).heap.size = w.heap.size := by
      show (w.heap.modify g _).size = _
      rw [Array.size_modify]
    have hb : (putRowK enc3 3 (Sort.ahead w n) g 0 l.reverse.toArray).heap[g]? = some (.cells (putCells id 0 (flatK enc3 3 l.reverse.toArray) cur) 44 (0, 0)) := by
      show (w.heap.modify g _)[g]? = _
      rw [Array.getElem?_modify, if_pos rfl, hh]
      rfl
    refine ⟨rfl, ⟨by rw [flat_length, List.length_reverse], .inr ⟨g, cap, _, rfl, hg, hb, hcap, hmax, ?_, ?_⟩⟩, ?_, by rw [hsize]; exact Nat.le_refl _, hkeep⟩
    · rw [← hsz]; unfold putCells; exact Array.size_mapIdx ..
    · apply List.ext_getElem?
      intro i
      rw [List.getElem?_take]
      by_cases hi : i < l.length * 3
      · rw [if_pos hi, Array.getElem?_toList]
        have hic : i < cur.size := by rw [hsz]; have := Nat.mul_le_mul_right 3 hcap; omega
        unfold putCells
        rw [Array.getElem?_mapIdx, Array.getElem?_eq_getElem hic, Option.map_some]
        have hsz2 : (flatK enc3 3 l.reverse.toArray).size = l.length * 3 := by rw [size_flatK]; simp
        rw [if_pos ⟨Nat.zero_le _, by rw [hsz2]; omega⟩, Nat.sub_zero, get_flatK _ _ _ _ (by simpa using hi)]
        obtain ⟨x, hx⟩ : ∃ x, l.reverse[i / 3]? = some x := ⟨_, List.getElem?_eq_getElem (by rw [List.length_reverse]; omega)⟩
        have e1 : l.reverse.toArray[i / 3]! = x := by
          have hja : i / 3 < l.reverse.toArray.size := by simp; omega
          rw [getElem!_pos _ (i / 3) hja]
          have : l.reverse.toArray[i / 3]? = some x := by rw [List.getElem?_toArray]; exact hx
          rw [Array.getElem?_eq_getElem hja] at this
          exact Option.some.inj this
        rw [e1]
        have h4 : i % 3 < (enc3 x).length := by show i % 3 < 3; omega
        have hu : (enc3 x)[i % 3]? = some ((enc3 x)[i % 3]!) := by rw [getElem!_pos (enc3 x) _ h4]; exact List.getElem?_eq_getElem h4
        have h5 := flat_put l.reverse (i / 3) _ (i % 3) _ hx hu
        rw [show i / 3 * 3 + i % 3 = i from by omega] at h5
        rw [h5]
        rfl
      · rw [if_neg hi, List.getElem?_eq_none (by rw [flat_length, List.length_reverse]; omega)]
    · intro hB
      exact ⟨rfl, rfl, rfl, by rw [hsize]; exact Nat.le_refl _, fun k hk => hkeep k (by omega) (by omega)⟩

set_option maxHeartbeats 2000000 in
theorem reverse_nil (w : World) : Calls Try.prog 16 #[.slice none 0 0] w fun e w' => e = .returned (.tuple #[]) ∧ w' = w := by
  go_enter Try.func16, Try.ntmps16
  go_wp2
  go_loopw [2, 3] (fun i j wr => i = .int .i64 0 ∧ j = .int .i64 (-1) ∧ wr = w) (fun _ _ _ => 0)
  · exact ⟨rfl, rfl, rfl⟩
  · obtain ⟨rfl, rfl, rfl⟩ := hrel
    go_wp2
    go_end0
    exact ⟨rfl, rfl⟩

/-- slices.Reverse turns a row of the call's own. -/
theorem reverse_row {P0_ : Nat → Prop} {v : Value} {l : List S44} {w0 w : World} (hB : Below w0.heap.size w0 w) (ho : Kd.R k44 44 w w0.heap.size P0_ v l) (h1 : l.length ≤ 1000) :
    Calls Try.prog 16 #[v] w fun e w' => e = .returned (.tuple #[]) ∧ Kd.R k44 44 w' w0.heap.size (fun k_ => (P0_ k_ ∨ w.heap.size ≤ k_)) v l.reverse ∧ Below w0.heap.size w0 w' ∧ Kept w w' (fun k_ => P0_ k_) := by
  have hown := own_of_row ho
  have hok := ho.1
  have hlen : l.reverse.length = l.length := by simp
  rcases hown.2 with ⟨rfl, hn⟩ | ⟨g, cap, cur, rfl, hg, hh, hcap⟩
  · obtain rfl := List.eq_nil_of_length_eq_zero hn
    refine (reverse_nil w).mono ?_
    rintro e w' ⟨rfl, rfl⟩
    exact ⟨rfl, Kd.R_mono ho (fun k hk => .inl hk), hB, Kept.refl _ _⟩
  · refine (reverse_some w0.heap.size g cap l w hown h1).mono ?_
    rintro e w' ⟨rfl, h1, h2, h3, h4⟩
    refine ⟨rfl, ⟨fun k hk => .inl (hok k hk), flat l.reverse, ?_, reps_flat _ _ _ _⟩, hB.trans (h2 hB.size), h3, fun i hi hn => h4 i hi (fun e => hn (e ▸ hok g rfl))⟩
    rw [hlen]
    exact h1
end Go.Proofs.Ytfnfmlcngleemaa.Tr
