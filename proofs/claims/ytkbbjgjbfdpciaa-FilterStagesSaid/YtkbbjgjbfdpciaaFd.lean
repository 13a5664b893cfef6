/- The filter's Samples: a row of its own; what is cloned. -/
import Derived.Test.YtkbbjgjbfdpciaaFc
import Derived.Test.YtkbbjgjbfdpciaaShelf
namespace Go.Proofs.Ytkbbjgjbfdpciaa.Fi
open Go Go.RowKit Go.Proofs.YtkbbjgjbfdpciaaW.PrintWords Go.Proofs.YtkbbjgjbfdpciaaW.PrintLast Go.Proofs.YtkbbjgjbfdpciaaW.PrintMore Go.Proofs.Ytkbbjgjbfdpciaa.PAll
attribute [local go_sem] max2_int min2_int max_two min_two max_three min_three max_four min_four
set_option linter.unusedVariables false
set_option linter.unusedSimpArgs false

/-- a sample's cells -/
def enc4 (x : S29) : List Value := [.int .i64 x.f0, .int .i64 x.f1, .int .i64 x.f2, .int .i64 x.f3]
instance : Inhabited S29 := ⟨z29⟩
/-- A row of samples in block g. -/
structure SRow (w : World) (g : Nat) (l : List S29) : Prop where
  lt : g < w.heap.size
  cell : ∀ i x, l[i]? = some x → ∀ j u, (enc4 x)[j]? = some u → w.cell? ⟨g, i * 4 + j, none⟩ = some u
  frz : ∀ i, i < l.length * 4 → w.frozen? ⟨g, i, none⟩ = false
theorem SRow.below {w w1 : World} {g : Nat} {l : List S29} (h : SRow w g l) {B : Nat} (k : Below B w w1) (hB : g < B) : SRow w1 g l :=
  ⟨Nat.lt_of_lt_of_le h.lt k.size, fun i x hx j u hu => (World.cell?_of_block (k.block g hB)).trans (h.cell i x hx j u hu), fun i hi => (World.frozen?_of_block (k.block g hB)).trans (h.frz i hi)⟩
theorem SRow.upd {w w1 : World} {g b : Nat} {l : List S29} (h : SRow w g l) (k : Upd w w1 b) (hb : g ≠ b) : SRow w1 g l :=
  ⟨Nat.lt_of_lt_of_le h.lt k.size, fun i x hx j u hu => (World.cell?_of_block (k.block g h.lt hb)).trans (h.cell i x hx j u hu), fun i hi => (World.frozen?_of_block (k.block g h.lt hb)).trans (h.frz i hi)⟩
theorem SRow.get {w : World} {g : Nat} {l : List S29} (h : SRow w g l) {i : Nat} {x : S29} (hx : l[i]? = some x) :
    w.cell? ⟨g, i * 4, none⟩ = some (.int .i64 x.f0) ∧ w.cell? ⟨g, i * 4 + 1, none⟩ = some (.int .i64 x.f1) ∧ w.cell? ⟨g, i * 4 + 2, none⟩ = some (.int .i64 x.f2) ∧ w.cell? ⟨g, i * 4 + 3, none⟩ = some (.int .i64 x.f3) :=
  ⟨h.cell i x hx 0 _ rfl, h.cell i x hx 1 _ rfl, h.cell i x hx 2 _ rfl, h.cell i x hx 3 _ rfl⟩
theorem SRow.reads {w : World} {g : Nat} {l : List S29} (h : SRow w g l) (h8 : l.length ≤ 9223372036854775807) : Kd.C k29 w (some ⟨g, 0, none⟩) l.length l :=
  ⟨rfl, h8, fun _ => ⟨_, rfl, fun j p hp => ⟨enc4 p, rfl, k29_mk w p, fun i u hu => by
    rw [Addr.add_lit]
    have := h.cell j p hp i u hu
    rw [Nat.zero_add]
    exact this⟩⟩⟩

/-- the cells of a list of samples, one behind the other -/
def flat (l : List S29) : List Value := l.flatMap enc4
theorem flat_length (l : List S29) : (flat l).length = l.length * 4 := by
  induction l with
  | nil => rfl
  | cons a r ih => unfold flat at *; rw [List.flatMap_cons, List.length_append, ih]; simp [enc4]; omega
theorem flat_get : ∀ (l : List S29) (j : Nat) (u : Value), (flat l)[j]? = some u → ∃ x, l[j / 4]? = some x ∧ (enc4 x)[j % 4]? = some u := by
  intro l
  induction l with
  | nil => intro j u h; simp [flat] at h
  | cons a r ih =>
    intro j u h
    unfold flat at h
    rw [List.flatMap_cons] at h
    by_cases hj : j < 4
    · rw [List.getElem?_append_left (by simpa [enc4] using hj)] at h
      rw [Nat.div_eq_of_lt hj, Nat.mod_eq_of_lt hj]
      exact ⟨a, rfl, h⟩
    · rw [List.getElem?_append_right (by simp [enc4]; omega)] at h
      obtain ⟨x, hx, hu⟩ := ih (j - 4) u h
      refine ⟨x, ?_, ?_⟩
      · have : j / 4 = (j - 4) / 4 + 1 := by omega
        rw [this, List.getElem?_cons_succ]; exact hx
      · have : j % 4 = (j - 4) % 4 := by omega
        rw [this]; exact hu
theorem flat_put : ∀ (l : List S29) (i : Nat) (x : S29) (j : Nat) (u : Value), l[i]? = some x → (enc4 x)[j]? = some u → (flat l)[i * 4 + j]? = some u := by
  intro l
  induction l with
  | nil => intro i x j u h; simp at h
  | cons a r ih =>
    intro i x j u h hu
    have hj : j < 4 := by have := (List.getElem?_eq_some_iff.1 hu).1; simpa [enc4] using this
    unfold flat
    rw [List.flatMap_cons]
    cases i with
    | zero =>
      simp at h
      subst h
      rw [List.getElem?_append_left (by simp [enc4]; omega), Nat.zero_mul, Nat.zero_add]
      exact hu
    | succ i =>
      rw [List.getElem?_cons_succ] at h
      rw [List.getElem?_append_right (by simp [enc4]; omega)]
      have : (i + 1) * 4 + j - (enc4 a).length = i * 4 + j := by simp [enc4]; omega
      rw [this]
      exact ih i x j u h hu
theorem enc_one (x : S29) : ∀ v ∈ enc4 x, v.oneCell' = true := by
  intro v hv
  simp [enc4] at hv
  rcases hv with rfl | rfl | rfl | rfl <;> rfl
theorem flat_one (l : List S29) : ∀ v ∈ flat l, v.oneCell' = true := by
  intro v hv
  unfold flat at hv
  rw [List.mem_flatMap] at hv
  obtain ⟨x, _, hx⟩ := hv
  exact enc_one x v hx

noncomputable def info29 : TypeInfo := (Try.prog.info? 29).get (by kernel_rfl)
/-- slices.Clone of a row of samples. -/
theorem clone_any (b off c : Nat) (l : List S29) (w : World) (h100 : l.length ≤ 100)
    (hc : ∀ i x, l[i]? = some x → ∀ j u, (enc4 x)[j]? = some u → w.cell? ⟨b, off + (i * 4 + j), none⟩ = some u) :
    Calls Try.prog 22 #[.slice (some ⟨b, off, none⟩) l.length c] w fun e w' => ∃ g cap, e = .returned (.slice (some ⟨g, 0, none⟩) l.length cap) ∧ w.heap.size ≤ g ∧ l.length ≤ cap ∧ SRow w' g l ∧ Below w.heap.size w w' := by
  have hcon := AnyE.slices_Clone Try.cloneSmp info29 (.agg #[.int .i64 0, .int .i64 0, .int .i64 0, .int .i64 0]) 4 32 (by kernel_rfl) (by kernel_rfl) (by kernel_rfl) (by kernel_rfl) rfl (by decide) Try.sizeOf29 b off l.length c (flat l) w (flat_length l) (by unfold maxLen; omega) (by omega)
    (fun j u hu => by
      obtain ⟨x, hx, hu'⟩ := flat_get l j u hu
      have := hc (j / 4) x hx (j % 4) u hu'
      have e : j / 4 * 4 + j % 4 = j := by omega
      rwa [e] at this) (flat_one l)
  change Calls Try.prog 22 _ _ _ at hcon
  refine hcon.mono ?_
  rintro e w' ⟨v', rfl, hown, hnil, hb⟩
  obtain ⟨hlen, h0 | ⟨g, cap, cur, rfl, hg, hh, hcap, hmax, hsz, htake⟩⟩ := hown
  · exact absurd h0.1 hnil
  · refine ⟨g, cap, rfl, hg, hcap, ⟨blk_lt hh, ?_, fun i _ => blk_frozen hh i⟩, hb⟩
    intro i x hx j u hu
    rw [blk_cell hh]
    have h1 := flat_put l i x j u hx hu
    rw [← htake] at h1
    rw [List.getElem?_take] at h1
    split at h1
    · rwa [Array.getElem?_toList] at h1
    · cases h1

theorem Fil.row {w : World} {b : Nat} {tol : Int} {l : List S29} {fresh : Int} (h : Fil w b tol l fresh) : ∀ i x, l[i]? = some x → ∀ j u, (enc4 x)[j]? = some u → w.cell? ⟨b, 1 + (i * 4 + j), none⟩ = some u := by
  intro i x hx j u hu
  obtain ⟨s0, s1, s2, s3⟩ := h.stage hx
  rw [← Nat.add_assoc]
  match j, hu with
  | 0, hu => simp [enc4] at hu; rw [← hu]; exact s0
  | 1, hu => simp [enc4] at hu; rw [← hu]; exact s1
  | 2, hu => simp [enc4] at hu; rw [← hu]; exact s2
  | 3, hu => simp [enc4] at hu; rw [← hu]; exact s3
  | j + 4, hu => simp [enc4] at hu

theorem slice44 (b n : Nat) (h : n ≤ 8) : ∀ w, Sem.run Try.prog (Instr.sliceAt 44 (.pointer (some ⟨b, 1, none⟩)) none (some (.int .i64 (n : Int))) none) w = .ok (.slice (some ⟨b, 1, none⟩) n 8) w := by
  intro w
  have hl : Try.prog.arrayLen 44 = 8 := by kernel_rfl
  have h2 : (n : Int) ≤ (Try.prog.arrayLen 44 : Nat) := by rw [hl]; omega
  have he : Try.prog.elem 44 = 29 := by kernel_rfl
  have ht : Try.prog.underlying 44 = some (.array (Try.prog.arrayLen 44) (Try.prog.elem 44)) := by rw [hl, he]; exact Try.underlying44
  rw [run_sliceAt_array_h (ht := ht) (h0 := by omega) (h2 := h2), hl, he, Try.sizeOf29]
  simp [slicedAt, Addr.add]

set_option maxHeartbeats 1000000 in
theorem samples_any (b : Nat) (tol : Int) (l : List S29) (fresh : Int) (w : World) (h : Fil w b tol l fresh) :
    Calls Try.prog 12 #[.pointer (some ⟨b, 0, none⟩)] w fun e w' => ∃ g cap, e = .returned (.slice (some ⟨g, 0, none⟩) l.length cap) ∧ w.heap.size ≤ g ∧ l.length ≤ cap ∧ SRow w' g l ∧ Below w.heap.size w w' := by
  have h8 := h.len
  have e6 := slice44 b l.length h8
  go_enter Try.func12, Try.ntmps12
  go_wp2
  refine region_still_tail 8 (by kernel_rfl) (by kernel_rfl) ?_
  intro w2 hd
  have H2 := h.drawn1 hd
  have hz : w2.heap.size = w.heap.size := by rw [hd.heap]
  have V2 : Below w.heap.size w w2 := ⟨hd.os, hd.tape, hd.output, by rw [hz]; exact Nat.le_refl _, fun i _ => by rw [hd.heap]⟩
  obtain ⟨c0, c1, c2⟩ := H2.cells
  clear hd h
  have hC := clone_any b 1 8 l w2 (by omega) H2.row
  replace hC := Aside0.mk hC
  simp only [List.take_succ_cons, List.take_zero, List.drop_succ_cons, List.drop_zero]
  repeat still_step
  refine wpStill_nil ?_
  go_wp2_with (first
    | (go_at_call 22
       with_reducible refine Calls.mono hC.out ?_
       rintro e w3 ⟨g, cap, rfl, hg, hcap, hS, hb⟩
       have V3 := V2.trans (hb.mono (by rw [hz]; exact Nat.le_refl _))))
  all_goals (go_ret; exact ⟨g, cap, rfl, by rw [← hz]; exact hg, hcap, hS, V3⟩)
end Go.Proofs.Ytkbbjgjbfdpciaa.Fi
