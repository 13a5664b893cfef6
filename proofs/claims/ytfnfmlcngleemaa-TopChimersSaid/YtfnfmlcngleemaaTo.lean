/- The changes' order: the closure, the sorted row. -/
import Derived.Test.YtfnfmlcngleemaaPAllx0
import Derived.StillTailTactics
import Derived.Handy
import Derived.Shelf.SlSortCmp.WholeK
namespace Go.Proofs.Ytfnfmlcngleemaa.Ta
open Go Go.RowKit Go.Proofs.YtfnfmlcngleemaaW.PrintWords Go.Proofs.YtfnfmlcngleemaaW.PrintLast Go.Proofs.YtfnfmlcngleemaaW.PrintMore Go.Proofs.Ytfnfmlcngleemaa.PAll
set_option linter.unusedVariables false
set_option linter.unusedSimpArgs false

/-- a change's cells -/
def enc2 (x : S51) : List Value := [.int .i64 x.f0, .int .i64 x.f1]
instance : Inhabited S51 := ⟨z51⟩
/-- the cells of a list of changes, one behind the other -/
def flat (l : List S51) : List Value := l.flatMap enc2
theorem flat_cons (a : S51) (r : List S51) : flat (a :: r) = enc2 a ++ flat r := by unfold flat; rw [List.flatMap_cons]
theorem flat_length (l : List S51) : (flat l).length = l.length * 2 := by
  induction l with
  | nil => rfl
  | cons a r ih => rw [flat_cons, List.length_append, ih]; simp [enc2]; omega
theorem flat_get : ∀ (l : List S51) (j : Nat) (u : Value), (flat l)[j]? = some u → ∃ x, l[j / 2]? = some x ∧ (enc2 x)[j % 2]? = some u := by
  intro l
  induction l with
  | nil => intro j u h; simp [flat] at h
  | cons a r ih =>
    intro j u h
    rw [flat_cons] at h
    by_cases hj : j < 2
    · rw [List.getElem?_append_left (by simpa [enc2] using hj)] at h
      rw [Nat.div_eq_of_lt hj, Nat.mod_eq_of_lt hj]
      exact ⟨a, rfl, h⟩
    · rw [List.getElem?_append_right (by simp [enc2]; omega)] at h
      obtain ⟨x, hx, hu⟩ := ih (j - 2) u h
      refine ⟨x, ?_, ?_⟩
      · have : j / 2 = (j - 2) / 2 + 1 := by omega
        rw [this, List.getElem?_cons_succ]; exact hx
      · have : j % 2 = (j - 2) % 2 := by omega
        rw [this]; exact hu
theorem flat_put : ∀ (l : List S51) (i : Nat) (x : S51) (j : Nat) (u : Value), l[i]? = some x → (enc2 x)[j]? = some u → (flat l)[i * 2 + j]? = some u := by
  intro l
  induction l with
  | nil => intro i x j u h; simp at h
  | cons a r ih =>
    intro i x j u h hu
    have hj : j < 2 := by have := (List.getElem?_eq_some_iff.1 hu).1; simpa [enc2] using this
    rw [flat_cons]
    cases i with
    | zero =>
      simp at h
      subst h
      rw [List.getElem?_append_left (by simp [enc2]; omega), Nat.zero_mul, Nat.zero_add]
      exact hu
    | succ i =>
      rw [List.getElem?_cons_succ] at h
      rw [List.getElem?_append_right (by simp [enc2]; omega)]
      have : (i + 1) * 2 + j - (enc2 a).length = i * 2 + j := by simp [enc2]; omega
      rw [this]
      exact ih i x j u h hu
theorem enc_one (x : S51) : ∀ v ∈ enc2 x, v.oneCell' = true := by
  intro v hv
  simp [enc2] at hv
  rcases hv with rfl | rfl <;> rfl
theorem flat_one (l : List S51) : ∀ v ∈ flat l, v.oneCell' = true := by
  intro v hv
  unfold flat at hv
  rw [List.mem_flatMap] at hv
  obtain ⟨x, _, hx⟩ := hv
  exact enc_one x v hx
theorem flat_part (l : List S51) (j : Nat) (p : S51) (h : l[j]? = some p) : ((flat l).drop (j * 2)).take 2 = enc2 p := by
  apply List.ext_getElem?
  intro i
  rw [List.getElem?_take]
  by_cases hi : i < 2
  · rw [if_pos hi, List.getElem?_drop]
    have hu : (enc2 p)[i]? = some ((enc2 p)[i]'(by show i < 2; exact hi)) := List.getElem?_eq_getElem _
    rw [flat_put l j p i _ h hu, hu]
  · rw [if_neg hi]
    exact (List.getElem?_eq_none (by show 2 ≤ i; omega)).symm
theorem reps_flat (w : World) (base : Nat) (ok : Nat → Prop) (l : List S51) : Reps (k51.M w base ok) 2 l (flat l) :=
  ⟨flat_length l, fun j p hj => by rw [flat_part l j p hj]; exact k51_mkM w base ok p⟩
theorem row_of_own {w : World} {base : Nat} {v : Value} {l : List S51} (h : w.ownsRow base 51 2 v l.length (flat l)) : Kd.R k51 51 w base (fun _ => True) v l :=
  ⟨fun _ _ => trivial, flat l, h, reps_flat _ _ _ l⟩
theorem flat_of_reps {w : World} {base : Nat} {ok : Nat → Prop} {l : List S51} {cs : List Value} (h : Reps (k51.M w base ok) 2 l cs) : cs = flat l := by
  apply List.ext_getElem?
  intro i
  by_cases hi : i < l.length * 2
  · have hj : i / 2 < l.length := by omega
    have hx := List.getElem?_eq_getElem hj
    have h1 := k51_openM (h.2 (i / 2) _ hx)
    have h2 : ((cs.drop (i / 2 * 2)).take 2)[i % 2]? = (enc2 l[i / 2])[i % 2]? := by rw [h1]; rfl
    rw [List.getElem?_take, if_pos (by omega), List.getElem?_drop, show i / 2 * 2 + i % 2 = i from by omega] at h2
    rw [h2]
    have hu : (enc2 l[i / 2])[i % 2]? = some ((enc2 l[i / 2])[i % 2]'(by show i % 2 < 2; omega)) := List.getElem?_eq_getElem _
    rw [hu, ← flat_put l (i / 2) _ (i % 2) _ hx hu, show i / 2 * 2 + i % 2 = i from by omega]
  · rw [List.getElem?_eq_none (by rw [h.1]; omega), List.getElem?_eq_none (by rw [flat_length]; omega)]
theorem own_of_row {w : World} {base : Nat} {ok : Nat → Prop} {v : Value} {l : List S51} (h : Kd.R k51 51 w base ok v l) : w.ownsRow base 51 2 v l.length (flat l) := by
  obtain ⟨_, inner, ho, hr⟩ := h
  rw [flat_of_reps hr] at ho
  exact ho


/-- the changes' order -/
def cfC (x y : S51) : Int := Lib.compareInt x.f0 y.f0

set_option maxHeartbeats 2000000 in
theorem closure_any (x y : S51) (W : World) : Calls Try.prog 19 #[.agg (enc2 x).toArray, .agg (enc2 y).toArray] W fun e w' => e = .returned (.int .i64 (cfC x y)) ∧ ∃ q os', w' = Go.Sort.grow (W.drewN q) os' := by
  show Calls Try.prog 19 #[.agg #[.int .i64 x.f0, .int .i64 x.f1], .agg #[.int .i64 y.f0, .int .i64 y.f1]] W _
  have R1 := blk_new W (.cells #[.int .i64 x.f0, .int .i64 x.f1] 51)
  have R2 := blk_alloc R1 (.cells #[.int .i64 y.f0, .int .i64 y.f1] 51)
  have R3 := blk_new (W.alloc (.cells #[.int .i64 x.f0, .int .i64 x.f1] 51)) (.cells #[.int .i64 y.f0, .int .i64 y.f1] 51)
  have e : ((W.alloc (.cells #[.int .i64 x.f0, .int .i64 x.f1] 51)).alloc (.cells #[.int .i64 y.f0, .int .i64 y.f1] 51)) = Go.Sort.grow W #[.cells #[.int .i64 x.f0, .int .i64 x.f1] 51, .cells #[.int .i64 y.f0, .int .i64 y.f1] 51] := by
    rw [Go.Sort.alloc_eq_grow, Go.Sort.alloc_eq_grow, Go.Sort.grow_grow]; rfl
  replace e := Aside0.mk e
  have hz : (W.alloc (.cells #[.int .i64 x.f0, .int .i64 x.f1] 51)).heap.size = W.heap.size + 1 := by rw [Go.Sort.alloc_eq_grow, Go.Sort.size_grow]; rfl
  rw [hz] at R3
  obtain ⟨c0, c1⟩ := cs2 R2
  obtain ⟨d0, d1⟩ := cs2 R3
  replace hz := Aside0.mk hz
  go_enter Try.func19, Try.ntmps19
  go_wp2_with (first
    | (go_at_call 20
       with_reducible refine Calls.mono (Try.cmp_Compare_int _ _ _) ?_
       rintro e w3 ⟨rfl, rfl⟩))
  go_ret
  exact ⟨rfl, 0, _, e.out⟩

theorem ltC (x y : S51) : Go.Proofs.ltOf cfC x y = decide (x.f0 < y.f0) := by
  unfold Go.Proofs.ltOf cfC Lib.compareInt
  apply decide_eq_decide.2
  by_cases h1 : x.f0 < y.f0
  · simp [h1]
  · by_cases h2 : y.f0 < x.f0
    · simp [h1, h2]
    · simp [h1, h2]
theorem swoC : Go.Sort.SWO (Go.Proofs.ltOf cfC) where
  irrefl x := by rw [ltC]; simp
  trans x y z h1 h2 := by rw [ltC] at *; simp only [decide_eq_true_eq] at *; omega
  ntrans x y z h1 h2 := by rw [ltC] at *; simp only [decide_eq_false_iff_not] at *; omega
theorem cmpLays_any (blk off size : Nat) (w : World) : Go.Proofs.CmpLays Try.prog 19 #[] enc2 2 cfC blk off size w :=
  fun _ _ _ _ x y => closure_any x y _

/-- the sorted changes -/
def srt (d : Array S51) : Array S51 := Go.Sort.pdq (Go.Proofs.ltOf cfC) d 0 d.size (Lib.bitLen d.size) true true
def sortS (l : List S51) : List S51 := (srt l.toArray).toList
open Go.Sort in
theorem srt_perm (d : Array S51) : PermIn 0 d.size d (srt d) := (pdq_sorts (Go.Proofs.ltOf cfC) swoC d 0 d.size (Lib.bitLen d.size) true true (Nat.zero_le _) (Nat.le_refl _) (Or.inl rfl)).1
theorem srt_size (d : Array S51) : (srt d).size = d.size := (srt_perm d).1
theorem sortS_size (l : List S51) : (sortS l).length = l.length := by
  unfold sortS; rw [Array.length_toList, srt_size]; simp

open Go.Sort in
theorem sort_some (base g cap : Nat) (l : List S51) (w : World) (h : w.ownsRow base 51 2 (.slice (some ⟨g, 0, none⟩) l.length cap) l.length (flat l)) (h100 : l.length ≤ 100) :
    Calls Try.prog 18 #[.slice (some ⟨g, 0, none⟩) l.length cap, .func (.func 19) #[] #[]] w fun e w' => e = .returned (.tuple #[]) ∧ w'.ownsRow base 51 2 (.slice (some ⟨g, 0, none⟩) l.length cap) l.length (flat (sortS l)) ∧ (base ≤ w.heap.size → Below base w w') ∧ w.heap.size ≤ w'.heap.size ∧ ∀ k, k < w.heap.size → k ≠ g → w'.heap[k]? = w.heap[k]? := by
  obtain ⟨_, h0 | ⟨g', cap', cur, e0, hg, hh, hcap, hmax, hsz, htake⟩⟩ := h
  · exact absurd h0.1 (by simp)
  · injection e0 with e1 e2 e3
    injection e1 with e1
    injection e1 with e1
    subst e1
    subst e3
    have eg : ∀ args w, (callFunc 19 args).run Try.prog w = .ok (.enter 19 args) w := enters_of Try.func19 (by kernel_rfl) rfl
    have hlt : g < w.heap.size := blk_lt hh
    have hH : HoldsK enc2 2 w g 0 l.toArray := by
      intro j hj
      rw [size_flatK] at hj
      have hj' : j < l.length * 2 := by simpa using hj
      have hlt : j / 2 < l.length := by omega
      rw [get_flatK _ _ _ _ hj]
      have hx : l[j / 2]? = some l[j / 2] := List.getElem?_eq_getElem hlt
      have e1 : l.toArray[j / 2]! = l[j / 2] := by rw [getElem!_pos l.toArray (j / 2) (by simpa using hlt)]; simp
      have h4 : j % 2 < (enc2 l[j / 2]).length := by show j % 2 < 2; omega
      have hu : (enc2 l[j / 2])[j % 2]? = some ((enc2 l[j / 2])[j % 2]!) := by rw [getElem!_pos (enc2 l[j / 2]) _ h4]; exact List.getElem?_eq_getElem h4
      have h5 := flat_put l (j / 2) _ (j % 2) _ hx hu
      rw [show j / 2 * 2 + j % 2 = j from by omega, ← htake, List.getElem?_take, if_pos hj', Array.getElem?_toList] at h5
      rw [e1, Nat.zero_add]
      exact ⟨(blk_cell hh j).trans h5, blk_frozen hh j⟩
    have hcon := AnyQ.slices_SortFunc_eq Try.sortChg 2 Try.isAgg51 Try.sizeOf51 enc2 (fun _ => rfl) enc_one cfC swoC 19 #[] g 0 cap l.toArray w eg (cmpLays_any g 0 l.toArray.size w) hH hlt (by simp; omega)
    change Calls Try.prog 18 _ _ _ at hcon
    refine hcon.mono ?_
    rintro e w' ⟨rfl, n, os, rfl⟩
    show _ ∧ (sortWorldK enc2 2 w g 0 n (srt l.toArray) os).ownsRow _ _ _ _ _ _ ∧ (_ → Below _ _ (sortWorldK enc2 2 w g 0 n (srt l.toArray) os)) ∧ _ ≤ (sortWorldK enc2 2 w g 0 n (srt l.toArray) os).heap.size ∧ ∀ k, _ → _ → (sortWorldK enc2 2 w g 0 n (srt l.toArray) os).heap[k]? = _
    have hsz' : (srt l.toArray).size = l.toArray.size := srt_size _
    have hlen := sortS_size l
    have hb : (sortWorldK enc2 2 w g 0 n (srt l.toArray) os).heap[g]? = some (.cells (putCells id 0 (flatK enc2 2 (srt l.toArray)) cur) 51 (0, 0)) := by
      show ((w.heap.modify g _) ++ os)[g]? = _
      rw [Array.getElem?_append_left (by simpa using hlt), Array.getElem?_modify, if_pos rfl, hh]
      rfl
    have hkeep : ∀ k, k < w.heap.size → k ≠ g → (sortWorldK enc2 2 w g 0 n (srt l.toArray) os).heap[k]? = w.heap[k]? := by
      intro k hk hne
      show ((w.heap.modify g _) ++ os)[k]? = w.heap[k]?
      rw [Array.getElem?_append_left (by rw [Array.size_modify]; omega), Array.getElem?_modify, if_neg (by omega)]
    refine ⟨rfl, ⟨by rw [flat_length, hlen], .inr ⟨g, cap, _, rfl, hg, hb, hcap, hmax, ?_, ?_⟩⟩, ?_, size_sortWorldK_c enc2 2 w g 0 n _ os, hkeep⟩
    · rw [← hsz]; unfold putCells; exact Array.size_mapIdx ..
    · apply List.ext_getElem?
      intro i
      rw [List.getElem?_take]
      by_cases hi : i < l.length * 2
      · rw [if_pos hi, Array.getElem?_toList]
        have hic : i < cur.size := by rw [hsz]; have := Nat.mul_le_mul_right 2 hcap; omega
        unfold putCells
        rw [Array.getElem?_mapIdx, Array.getElem?_eq_getElem hic, Option.map_some]
        have hsz2 : (flatK enc2 2 (srt l.toArray)).size = l.length * 2 := by rw [size_flatK, hsz']; simp
        rw [if_pos ⟨Nat.zero_le _, by rw [hsz2]; omega⟩, Nat.sub_zero, get_flatK _ _ _ _ (by rw [hsz']; simpa using hi)]
        have hja : i / 2 < (srt l.toArray).size := by rw [hsz']; simp; omega
        obtain ⟨x, hx⟩ : ∃ x, (sortS l)[i / 2]? = some x := ⟨_, List.getElem?_eq_getElem (by rw [hlen]; omega)⟩
        have e1 : (srt l.toArray)[i / 2]! = x := by
          rw [getElem!_pos _ (i / 2) hja]
          unfold sortS at hx
          rw [Array.getElem?_toList, Array.getElem?_eq_getElem hja] at hx
          exact Option.some.inj hx
        rw [e1]
        have h4 : i % 2 < (enc2 x).length := by show i % 2 < 2; omega
        have hu : (enc2 x)[i % 2]? = some ((enc2 x)[i % 2]!) := by rw [getElem!_pos (enc2 x) _ h4]; exact List.getElem?_eq_getElem h4
        have h5 := flat_put (sortS l) (i / 2) _ (i % 2) _ hx hu
        rw [show i / 2 * 2 + i % 2 = i from by omega] at h5
        rw [h5]
        rfl
      · rw [if_neg hi, List.getElem?_eq_none (by rw [flat_length, hlen]; omega)]
    · intro hB
      exact ⟨rfl, rfl, rfl, size_sortWorldK_c enc2 2 w g 0 n _ os, fun k hk => hkeep k (by omega) (by omega)⟩

set_option maxHeartbeats 2000000 in
theorem insertion_nil (w : World) : Calls Try.prog 24 #[.slice none 0 0, .int .i64 0, .int .i64 0, .func (.func 19) #[] #[]] w fun e w' => e = .returned (.tuple #[]) ∧ w' = w := by
  go_enter Try.func24, Try.ntmps24
  go_wp2
  go_loopw [8, 9] (fun i s9 wr => i = .int .i64 1 ∧ wr = w) (fun _ _ _ => 0)
  · exact ⟨rfl, rfl⟩
  · obtain ⟨rfl, rfl⟩ := hrel
    go_wp2
    go_end0
    exact ⟨rfl, rfl⟩
set_option maxHeartbeats 2000000 in
theorem pdq_nil (lim : Int) (w : World) : Calls Try.prog 21 #[.slice none 0 0, .int .i64 0, .int .i64 0, .int .i64 lim, .func (.func 19) #[] #[]] w fun e w' => e = .returned (.tuple #[]) ∧ w' = w := by
  have hi := insertion_nil
  go_enter Try.func21, Try.ntmps21
  go_wp2
  refine wp_loop_rounds 1 ?_
  rw [rounds_succ]
  go_wp2_with (go_at_call 24; with_reducible refine Calls.mono (hi _) ?_; rintro e w' ⟨rfl, rfl⟩)
  (try simp only [Exit.inBlock, Exit.then]); refine bodyPost_ret (results_none rfl _ _ _) rfl ?_
  exact ⟨rfl, rfl⟩
theorem sort_nil (w : World) : Calls Try.prog 18 #[.slice none 0 0, .func (.func 19) #[] #[]] w fun e w' => e = .returned (.tuple #[]) ∧ w' = w := by
  have hl := Try.bits_Len 0 w (by omega) (by omega)
  go_enter Try.func18, Try.ntmps18
  go_wp2_with (first
    | (go_at_call 22
       with_reducible refine Calls.mono hl ?_
       rintro e w' ⟨rfl, rfl⟩)
    | (go_at_call 21
       with_reducible refine Calls.mono (pdq_nil _ _) ?_
       rintro e w' ⟨rfl, rfl⟩))
  go_end0
  exact ⟨rfl, rfl⟩

/-- slices.SortFunc turns a row of the call's own. -/
theorem sort_row {P0_ : Nat → Prop} {v : Value} {l : List S51} {w0 w : World} (hB : Below w0.heap.size w0 w) (ho : Kd.R k51 51 w w0.heap.size P0_ v l) (h100 : l.length ≤ 100) :
    Calls Try.prog 18 #[v, .func (.func 19) #[] #[]] w fun e w' => e = .returned (.tuple #[]) ∧ Kd.R k51 51 w' w0.heap.size (fun k_ => (P0_ k_ ∨ w.heap.size ≤ k_)) v (sortS l) ∧ Below w0.heap.size w0 w' ∧ Kept w w' (fun k_ => P0_ k_) := by
  have hown := own_of_row ho
  have hok := ho.1
  have hlen := sortS_size l
  rcases hown.2 with ⟨rfl, hn⟩ | ⟨g, cap, cur, rfl, hg, hh, hcap⟩
  · obtain rfl := List.eq_nil_of_length_eq_zero hn
    have e0 : sortS [] = [] := List.eq_nil_of_length_eq_zero (sortS_size [])
    refine (sort_nil w).mono ?_
    rintro e w' ⟨rfl, rfl⟩
    rw [e0]
    exact ⟨rfl, Kd.R_mono ho (fun k hk => .inl hk), hB, Kept.refl _ _⟩
  · refine (sort_some w0.heap.size g cap l w hown h100).mono ?_
    rintro e w' ⟨rfl, h1, h2, h3, h4⟩
    rw [← hlen] at h1
    refine ⟨rfl, ⟨fun k hk => .inl (hok k hk), flat (sortS l), ?_, reps_flat _ _ _ _⟩, hB.trans (h2 hB.size), h3, fun i hi hn => h4 i hi (fun e => hn (e ▸ hok g rfl))⟩
    rw [hlen] at h1 ⊢
    exact h1
end Go.Proofs.Ytfnfmlcngleemaa.Ta
