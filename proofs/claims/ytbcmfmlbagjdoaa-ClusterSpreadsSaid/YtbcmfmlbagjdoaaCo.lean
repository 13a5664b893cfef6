/- The candidates' order: Clone, cmp.Or, the closure, the sorted row. -/
import Derived.Test.YtbcmfmlbagjdoaaPAllx0
import Derived.StillTailTactics
import Derived.Handy
import Derived.Shelf.SlSortCmp.SmallK
namespace Go.Proofs.Ytbcmfmlbagjdoaa.Ca
open Go Go.RowKit Go.Proofs.YtbcmfmlbagjdoaaW.PrintWords Go.Proofs.YtbcmfmlbagjdoaaW.PrintLast Go.Proofs.YtbcmfmlbagjdoaaW.PrintMore Go.Proofs.Ytbcmfmlbagjdoaa.PAll
attribute [local go_sem] max2_int min2_int max_two min_two max_three min_three max_four min_four
set_option linter.unusedVariables false
set_option linter.unusedSimpArgs false

/-- a candidate's cells -/
def enc5 (x : S34) : List Value := [.int .i64 x.f0, .int .i64 x.f1, .int .i64 x.f2, .int .i64 x.f3, .int .i64 x.f4]
instance : Inhabited S34 := ⟨z34⟩
/-- the cells of a list of candidates, one behind the other -/
def flat (l : List S34) : List Value := l.flatMap enc5
theorem flat_cons (a : S34) (r : List S34) : flat (a :: r) = enc5 a ++ flat r := by unfold flat; rw [List.flatMap_cons]
theorem flat_length (l : List S34) : (flat l).length = l.length * 5 := by
  induction l with
  | nil => rfl
  | cons a r ih => rw [flat_cons, List.length_append, ih]; simp [enc5]; omega
theorem flat_get : ∀ (l : List S34) (j : Nat) (u : Value), (flat l)[j]? = some u → ∃ x, l[j / 5]? = some x ∧ (enc5 x)[j % 5]? = some u := by
  intro l
  induction l with
  | nil => intro j u h; simp [flat] at h
  | cons a r ih =>
    intro j u h
    rw [flat_cons] at h
    by_cases hj : j < 5
    · rw [List.getElem?_append_left (by simpa [enc5] using hj)] at h
      rw [Nat.div_eq_of_lt hj, Nat.mod_eq_of_lt hj]
      exact ⟨a, rfl, h⟩
    · rw [List.getElem?_append_right (by simp [enc5]; omega)] at h
      obtain ⟨x, hx, hu⟩ := ih (j - 5) u h
      refine ⟨x, ?_, ?_⟩
      · have : j / 5 = (j - 5) / 5 + 1 := by omega
        rw [this, List.getElem?_cons_succ]; exact hx
      · have : j % 5 = (j - 5) % 5 := by omega
        rw [this]; exact hu
theorem flat_put : ∀ (l : List S34) (i : Nat) (x : S34) (j : Nat) (u : Value), l[i]? = some x → (enc5 x)[j]? = some u → (flat l)[i * 5 + j]? = some u := by
  intro l
  induction l with
  | nil => intro i x j u h; simp at h
  | cons a r ih =>
    intro i x j u h hu
    have hj : j < 5 := by have := (List.getElem?_eq_some_iff.1 hu).1; simpa [enc5] using this
    rw [flat_cons]
    cases i with
    | zero =>
      simp at h
      subst h
      rw [List.getElem?_append_left (by simp [enc5]; omega), Nat.zero_mul, Nat.zero_add]
      exact hu
    | succ i =>
      rw [List.getElem?_cons_succ] at h
      rw [List.getElem?_append_right (by simp [enc5]; omega)]
      have : (i + 1) * 5 + j - (enc5 a).length = i * 5 + j := by simp [enc5]; omega
      rw [this]
      exact ih i x j u h hu
theorem enc_one (x : S34) : ∀ v ∈ enc5 x, v.oneCell' = true := by
  intro v hv
  simp [enc5] at hv
  rcases hv with rfl | rfl | rfl | rfl | rfl <;> rfl
theorem flat_one (l : List S34) : ∀ v ∈ flat l, v.oneCell' = true := by
  intro v hv
  unfold flat at hv
  rw [List.mem_flatMap] at hv
  obtain ⟨x, _, hx⟩ := hv
  exact enc_one x v hx
theorem flat_part (l : List S34) (j : Nat) (p : S34) (h : l[j]? = some p) : ((flat l).drop (j * 5)).take 5 = enc5 p := by
  apply List.ext_getElem?
  intro i
  rw [List.getElem?_take]
  by_cases hi : i < 5
  · rw [if_pos hi, List.getElem?_drop]
    have hu : (enc5 p)[i]? = some ((enc5 p)[i]'(by show i < 5; exact hi)) := List.getElem?_eq_getElem _
    rw [flat_put l j p i _ h hu, hu]
  · rw [if_neg hi]
    exact (List.getElem?_eq_none (by show 5 ≤ i; omega)).symm
theorem reps_flat (w : World) (base : Nat) (ok : Nat → Prop) (l : List S34) : Reps (k34.M w base ok) 5 l (flat l) :=
  ⟨flat_length l, fun j p hj => by rw [flat_part l j p hj]; exact k34_mkM w base ok p⟩
theorem row_of_own {w : World} {base : Nat} {v : Value} {l : List S34} (h : w.ownsRow base 34 5 v l.length (flat l)) : Kd.R k34 34 w base (fun _ => True) v l :=
  ⟨fun _ _ => trivial, flat l, h, reps_flat _ _ _ l⟩
theorem flat_of_reps {w : World} {base : Nat} {ok : Nat → Prop} {l : List S34} {cs : List Value} (h : Reps (k34.M w base ok) 5 l cs) : cs = flat l := by
  apply List.ext_getElem?
  intro i
  by_cases hi : i < l.length * 5
  · have hj : i / 5 < l.length := by omega
    have hx := List.getElem?_eq_getElem hj
    have h1 := k34_openM (h.2 (i / 5) _ hx)
    have h2 : ((cs.drop (i / 5 * 5)).take 5)[i % 5]? = (enc5 l[i / 5])[i % 5]? := by rw [h1]; rfl
    rw [List.getElem?_take, if_pos (by omega), List.getElem?_drop, show i / 5 * 5 + i % 5 = i from by omega] at h2
    rw [h2]
    have hu : (enc5 l[i / 5])[i % 5]? = some ((enc5 l[i / 5])[i % 5]'(by show i % 5 < 5; omega)) := List.getElem?_eq_getElem _
    rw [hu, ← flat_put l (i / 5) _ (i % 5) _ hx hu, show i / 5 * 5 + i % 5 = i from by omega]
  · rw [List.getElem?_eq_none (by rw [h.1]; omega), List.getElem?_eq_none (by rw [flat_length]; omega)]
theorem own_of_row {w : World} {base : Nat} {ok : Nat → Prop} {v : Value} {l : List S34} (h : Kd.R k34 34 w base ok v l) : w.ownsRow base 34 5 v l.length (flat l) := by
  obtain ⟨_, inner, ho, hr⟩ := h
  rw [flat_of_reps hr] at ho
  exact ho

noncomputable def inf34 : TypeInfo := (Try.prog.info? 34).get (by kernel_rfl)
set_option maxHeartbeats 2000000 in
set_option maxRecDepth 100000 in
/-- slices.Clone of candidates. -/
theorem clone_any (A0 : Option Addr) (c0 : Nat) (l : List S34) (w : World) (h100 : l.length ≤ 100) (hr : Kd.C k34 w A0 l.length l) :
    Calls Try.prog 27 #[.slice A0 l.length c0] w fun e w' => ∃ v, e = .returned v ∧ w'.ownsRow w.heap.size 34 5 v l.length (flat l) ∧ Below w.heap.size w w' := by
  cases A0 with
  | none =>
    have h0 : l.length = 0 := by
      rcases Nat.eq_zero_or_pos l.length with h | h
      · exact h
      · obtain ⟨ad, e, _⟩ := hr.2.2 h; cases e
    obtain rfl := List.eq_nil_of_length_eq_zero h0
    have hcon := AnyE.slices_Clone_nil Try.cloneCand 0 c0 w
    change Calls Try.prog 27 _ _ _ at hcon
    refine hcon.mono ?_
    rintro e w' ⟨rfl, rfl⟩
    exact ⟨_, rfl, own_nil _ _ _ _, Below.refl _ _⟩
  | some ad =>
    have hnews : ∀ j u, (flat l)[j]? = some u → w.cell? (ad.add j) = some u := by
      intro j u hj
      obtain ⟨x, hx, hu⟩ := flat_get l j u hj
      have hp : 0 < l.length := by have := (List.getElem?_eq_some_iff.1 hx).1; omega
      obtain ⟨ad', e, hc⟩ := hr.2.2 hp
      cases e
      obtain ⟨c, _, hk, hcell⟩ := hc (j / 5) x hx
      have := k34_open hk
      subst this
      have h2 : w.cell? (ad.add (j / 5 * 5 + j % 5)) = some u := hcell (j % 5) u hu
      rwa [show j / 5 * 5 + j % 5 = j from by omega] at h2
    have q22 : ∀ (w : World) (a : Option Addr) (n c n' c' : Nat), (binOp .eql 22 (.slice a n c) (.slice none n' c')).run Try.prog w = .ok (.bool a.isNone) w := fun w a n c n' c' => Lib.run_eql_slice_nil w _ _ a n c n' c' Try.underlying22
    have A : Aside (∀ j u, (flat l)[j]? = some u → w.cell? (ad.add j) = some u) := hnews
    clear hnews hr
    go_enter Try.func27, Try.ntmps27
    go_wp2_with (at_builtin; refine wpList_append_own _ rfl _ _ 22 rfl w.heap.size 34 inf34 (.agg #[.int .i64 0, .int .i64 0, .int .i64 0, .int .i64 0, .int .i64 0]) 5 40 Try.underlying22 (by kernel_rfl) (by kernel_rfl) (by kernel_rfl) (by kernel_rfl) rfl (by decide) _ _ _ rfl (World.ownsRow_made w #[] 0 (Nat.le_refl _) (Nat.zero_le _) (by simp)) ad l.length c0 (flat l) rfl ?qc1 ?qc2 ?qc3 ?qc4 ?qc5 ?qc6 ?_)
    case qc1 => exact flat_length l
    case qc2 =>
      intro j u hj
      exact Lib.cell?_alloc_some _ (A.out j u hj)
    case qc3 => exact flat_one l
    case qc4 => unfold maxLen; omega
    case qc5 => omega
    case qc6 => simp
    intro v' w1 hown hgrow hnil
    go_wp2
    go_ret
    refine ⟨v', rfl, by simpa using hown, ?_⟩
    exact ((Below.refl _ w).alloc (Nat.le_refl _) _).grown hgrow (by simp) (by intro k hk; simp [Value.ownBlock] at hk; omega)

def or3 (a b c : Int) : Int := if a = 0 then (if b = 0 then c else b) else a
set_option maxHeartbeats 2000000 in
theorem or_three (g : Nat) (a b c : Int) (w : World) (h0 : w.cell? ⟨g, 0, none⟩ = some (.int .i64 a)) (h1 : w.cell? ⟨g, 1, none⟩ = some (.int .i64 b)) (h2 : w.cell? ⟨g, 2, none⟩ = some (.int .i64 c)) :
    Calls Try.prog 30 #[.slice (some ⟨g, 0, none⟩) 3 3] w fun e w' => e = .returned (.int .i64 (or3 a b c)) ∧ w' = w := by
  go_enter Try.func30, Try.ntmps30
  go_wp2
  go_loopw [5, 8] (fun s5 i wr => ∃ k : Nat, k ≤ 3 ∧ i = .int .i64 k ∧ (0 < k → a = 0) ∧ (1 < k → b = 0) ∧ (2 < k → c = 0) ∧ wr = w) (fun _ i _ => 3 - (intOf i).toNat)
  · exact ⟨0, by omega, rfl, by omega, by omega, by omega, rfl⟩
  · obtain ⟨k, hk, rfl, ha, hb, hc, rfl⟩ := hrel
    match k, hk with
    | 0, _ =>
      by_cases h : a = 0
      · subst h
        go_wp2
        all_goals
          go_roundw
          case rel => exact ⟨1, by omega, by go_num, by first | trivial | simp, by first | trivial | simp, by first | trivial | simp, by first | trivial | rfl⟩
          case measure => simp [intOf]
      · have hq : (a == 0) = false := by simpa using h
        have hr : or3 a b c = a := if_neg h
        go_wp2
        all_goals (go_ret; exact ⟨by show Ending.returned (Value.int IntKind.i64 a) = _; rw [hr], rfl⟩)
    | 1, _ =>
      have ha := ha (by omega)
      subst ha
      by_cases h : b = 0
      · subst h
        go_wp2
        all_goals
          go_roundw
          case rel => exact ⟨2, by omega, by go_num, by first | trivial | simp, by first | trivial | simp, by first | trivial | simp, by first | trivial | rfl⟩
          case measure => simp [intOf]
      · have hq : (b == 0) = false := by simpa using h
        have hr : or3 0 b c = b := by unfold or3; rw [if_pos rfl, if_neg h]
        go_wp2
        all_goals (go_ret; exact ⟨by first | rfl | (show Ending.returned (Value.int IntKind.i64 b) = _; rw [hr]), rfl⟩)
    | 2, _ =>
      have ha := ha (by omega)
      have hb := hb (by omega)
      subst ha
      subst hb
      by_cases h : c = 0
      · subst h
        go_wp2
        all_goals
          go_roundw
          case rel => exact ⟨3, by omega, by go_num, by first | trivial | simp, by first | trivial | simp, by first | trivial | simp, by first | trivial | rfl⟩
          case measure => simp [intOf]
      · have hq : (c == 0) = false := by simpa using h
        have hr : or3 0 0 c = c := by unfold or3; rw [if_pos rfl, if_pos rfl]
        go_wp2
        all_goals (go_ret; exact ⟨by first | rfl | (show Ending.returned (Value.int IntKind.i64 c) = _; rw [hr]), rfl⟩)
    | 3, _ =>
      have ha := ha (by omega)
      have hb := hb (by omega)
      have hc := hc (by omega)
      subst ha
      subst hb
      subst hc
      go_wp2
      all_goals (go_ret; exact ⟨rfl, rfl⟩)

/-- the candidates' order -/
def cfC (x y : S34) : Int := or3 (Lib.compareInt x.f4 y.f4) (Lib.compareInt x.f2 y.f2) (Lib.compareInt x.f0 y.f0)

set_option maxHeartbeats 2000000 in
theorem closure_any (x y : S34) (W : World) : Calls Try.prog 29 #[.agg (enc5 x).toArray, .agg (enc5 y).toArray] W fun e w' => e = .returned (.int .i64 (cfC x y)) ∧ ∃ q os', w' = Go.Sort.grow (W.drewN q) os' := by
  show Calls Try.prog 29 #[.agg #[.int .i64 x.f0, .int .i64 x.f1, .int .i64 x.f2, .int .i64 x.f3, .int .i64 x.f4], .agg #[.int .i64 y.f0, .int .i64 y.f1, .int .i64 y.f2, .int .i64 y.f3, .int .i64 y.f4]] W _
  have R1 := blk_new W (.cells #[.int .i64 x.f0, .int .i64 x.f1, .int .i64 x.f2, .int .i64 x.f3, .int .i64 x.f4] 34)
  have R2 := blk_alloc R1 (.cells #[.int .i64 y.f0, .int .i64 y.f1, .int .i64 y.f2, .int .i64 y.f3, .int .i64 y.f4] 34)
  have R3 := blk_new (W.alloc (.cells #[.int .i64 x.f0, .int .i64 x.f1, .int .i64 x.f2, .int .i64 x.f3, .int .i64 x.f4] 34)) (.cells #[.int .i64 y.f0, .int .i64 y.f1, .int .i64 y.f2, .int .i64 y.f3, .int .i64 y.f4] 34)
  have e : ((W.alloc (.cells #[.int .i64 x.f0, .int .i64 x.f1, .int .i64 x.f2, .int .i64 x.f3, .int .i64 x.f4] 34)).alloc (.cells #[.int .i64 y.f0, .int .i64 y.f1, .int .i64 y.f2, .int .i64 y.f3, .int .i64 y.f4] 34)) = Go.Sort.grow W #[.cells #[.int .i64 x.f0, .int .i64 x.f1, .int .i64 x.f2, .int .i64 x.f3, .int .i64 x.f4] 34, .cells #[.int .i64 y.f0, .int .i64 y.f1, .int .i64 y.f2, .int .i64 y.f3, .int .i64 y.f4] 34] := by
    rw [Go.Sort.alloc_eq_grow, Go.Sort.alloc_eq_grow, Go.Sort.grow_grow]; rfl
  replace e := Aside0.mk e
  go_enter Try.func29, Try.ntmps29
  go_wp2
  generalize hW : (W.alloc (.cells #[.int .i64 x.f0, .int .i64 x.f1, .int .i64 x.f2, .int .i64 x.f3, .int .i64 x.f4] 34)).alloc (.cells #[.int .i64 y.f0, .int .i64 y.f1, .int .i64 y.f2, .int .i64 y.f3, .int .i64 y.f4] 34) = W1 at *
  have R4 := blk_drewN R2 1
  have R5 := blk_drewN R3 1
  obtain ⟨c0, c1, c2, c3, c4⟩ := cs5 R4
  refine wp_region_still_tail 15 (by kernel_rfl) (by kernel_rfl) ?_
  show wpStill _ _ (W1.drewN 1) (fun a' => wpList _ _ _ _ a' (W1.drewN 1)) _ _
  generalize hW2 : W1.drewN 1 = W2 at *
  have hz : (W.alloc (.cells #[.int .i64 x.f0, .int .i64 x.f1, .int .i64 x.f2, .int .i64 x.f3, .int .i64 x.f4] 34)).heap.size = W.heap.size + 1 := by rw [Go.Sort.alloc_eq_grow, Go.Sort.size_grow]; rfl
  rw [hz] at R5
  obtain ⟨d0, d1, d2, d3, d4⟩ := cs5 R5
  simp only [List.take_succ_cons, List.take_zero, List.drop_succ_cons, List.drop_zero]
  repeat still_step
  still_call (Try.cmp_Compare_int _ _ _)
  repeat still_step
  still_call (Try.cmp_Compare_int _ _ _)
  repeat still_step
  still_call (Try.cmp_Compare_int _ _ _)
  repeat still_step
  refine wpStill_nil ?_
  have R6 := blk_new W2 (.cells #[.int .i64 (Lib.compareInt x.f4 y.f4), .int .i64 (Lib.compareInt x.f2 y.f2), .int .i64 (Lib.compareInt x.f0 y.f0)] 3)
  obtain ⟨k0, k1, k2⟩ := cs3 R6
  have hor := or_three W2.heap.size _ _ _ _ k0 k1 k2
  replace hor := Aside0.mk hor
  clear c0 c1 c2 c3 c4 d0 d1 d2 d3 d4 k0 k1 k2
  go_wp2_with (first
    | (go_at_call 30
       with_reducible refine Calls.mono hor.out ?_
       rintro e w3 ⟨rfl, rfl⟩))
  go_ret
  refine ⟨rfl, 1, #[.cells #[.int .i64 x.f0, .int .i64 x.f1, .int .i64 x.f2, .int .i64 x.f3, .int .i64 x.f4] 34, .cells #[.int .i64 y.f0, .int .i64 y.f1, .int .i64 y.f2, .int .i64 y.f3, .int .i64 y.f4] 34, .cells #[.int .i64 (Lib.compareInt x.f4 y.f4), .int .i64 (Lib.compareInt x.f2 y.f2), .int .i64 (Lib.compareInt x.f0 y.f0)] 3], ?_⟩
  rw [← hW2, e.out, Go.Sort.alloc_eq_grow]
  show Go.Sort.grow (Go.Sort.grow (W.drewN 1) _) _ = _
  rw [Go.Sort.grow_grow]
  rfl

/-- the order: stratum, distance, number -/
def ltP (x y : S34) : Prop := x.f4 < y.f4 ∨ (x.f4 = y.f4 ∧ (x.f2 < y.f2 ∨ (x.f2 = y.f2 ∧ x.f0 < y.f0)))
instance (x y : S34) : Decidable (ltP x y) := by unfold ltP; infer_instance
theorem ltC (x y : S34) : Go.Proofs.ltOf cfC x y = decide (ltP x y) := by
  unfold Go.Proofs.ltOf cfC or3 Lib.compareInt
  apply decide_eq_decide.2
  unfold ltP
  by_cases h1 : x.f4 < y.f4
  · simp [h1]
  · by_cases h2 : y.f4 < x.f4
    · have : ¬ x.f4 = y.f4 := by omega
      simp [h1, h2, this]
    · have h3 : x.f4 = y.f4 := by omega
      by_cases h4 : x.f2 < y.f2
      · simp [h3, h4]
      · by_cases h5 : y.f2 < x.f2
        · have : ¬ x.f2 = y.f2 := by omega
          simp [h3, h4, h5, this]
        · have h6 : x.f2 = y.f2 := by omega
          by_cases h7 : x.f0 < y.f0
          · simp [h3, h6, h7]
          · by_cases h8 : y.f0 < x.f0 <;> simp [h3, h6, h7, h8]
theorem swoC : Go.Sort.SWO (Go.Proofs.ltOf cfC) where
  irrefl x := by rw [ltC]; simp [ltP]
  trans x y z h1 h2 := by rw [ltC] at *; simp only [decide_eq_true_eq] at *; unfold ltP at *; omega
  ntrans x y z h1 h2 := by rw [ltC] at *; simp only [decide_eq_false_iff_not] at *; unfold ltP at *; omega
theorem cmpLays_any (blk off size : Nat) (w : World) : Go.Proofs.CmpLays Try.prog 29 #[] enc5 5 cfC blk off size w :=
  fun _ _ _ _ x y => closure_any x y _
theorem hlen_any (n : Nat) (W : World) (h : n ≤ 12) : Calls Try.prog 38 #[.int .u64 n] W fun e w' => (∃ l : Int, e = .returned (.int .i64 l)) ∧ w' = W :=
  (Try.bits_Len n W (by omega) (by omega)).mono fun _ _ ⟨he, hw⟩ => ⟨⟨_, he⟩, hw⟩

/-- the sorted candidates -/
def sortS (l : List S34) : List S34 := (Go.Sort.insertionSort (Go.Proofs.ltOf cfC) l.toArray 0 l.toArray.size).toList

open Go.Sort in
theorem sortS_size (l : List S34) : (sortS l).length = l.length := by
  have hp := (insertionSort_holds (lt := Go.Proofs.ltOf cfC) swoC l.toArray 0 l.toArray.size (Nat.zero_le _) (Nat.le_refl _)).1
  have hsz : (Go.Sort.insertionSort (Go.Proofs.ltOf cfC) l.toArray 0 l.toArray.size).size = l.toArray.size := hp.1
  unfold sortS; rw [Array.length_toList, hsz]; simp
open Go.Sort in
theorem sortS_perm (l : List S34) : (sortS l).Perm l := by
  have hp := (insertionSort_holds (lt := Go.Proofs.ltOf cfC) swoC l.toArray 0 l.toArray.size (Nat.zero_le _) (Nat.le_refl _)).1
  have h3 := hp.2.2
  have e1 : (Go.Sort.insertionSort (Go.Proofs.ltOf cfC) l.toArray 0 l.toArray.size).extract 0 l.toArray.size = Go.Sort.insertionSort (Go.Proofs.ltOf cfC) l.toArray 0 l.toArray.size := by
    have hq : ∀ (a : Array S34) n, a.size = n → a.extract 0 n = a := by intro a n h; subst h; simp
    exact hq _ _ hp.1
  rw [e1] at h3
  simpa [sortS] using h3
open Go.Sort in
theorem sortS_sorted (l : List S34) (i j : Nat) (hij : i < j) (x y : S34) (hx : (sortS l)[i]? = some x) (hy : (sortS l)[j]? = some y) : ¬ ltP y x := by
  have hp := insertionSort_holds (lt := Go.Proofs.ltOf cfC) swoC l.toArray 0 l.toArray.size (Nat.zero_le _) (Nat.le_refl _)
  have hs := hp.1.1
  have hj : j < (Go.Sort.insertionSort (Go.Proofs.ltOf cfC) l.toArray 0 l.toArray.size).size := by
    have := (List.getElem?_eq_some_iff.1 hy).1
    unfold sortS at this
    rwa [Array.length_toList] at this
  have h := hp.2 i j (Nat.zero_le _) hij (by rw [← hs]; exact hj)
  unfold sortS at hx hy
  rw [Array.getElem?_toList] at hx hy
  rw [getElem!_pos _ j hj, getElem!_pos _ i (by omega)] at h
  rw [Array.getElem?_eq_getElem hj] at hy
  rw [Array.getElem?_eq_getElem (by omega)] at hx
  rw [Option.some.inj hy, Option.some.inj hx, ltC] at h
  simpa using h

open Go.Sort in
theorem sort_some (base g cap : Nat) (l : List S34) (w : World) (h : w.ownsRow base 34 5 (.slice (some ⟨g, 0, none⟩) l.length cap) l.length (flat l)) (h12 : l.length ≤ 12) :
    Calls Try.prog 28 #[.slice (some ⟨g, 0, none⟩) l.length cap, .func (.func 29) #[] #[]] w fun e w' => e = .returned (.tuple #[]) ∧ w'.ownsRow base 34 5 (.slice (some ⟨g, 0, none⟩) l.length cap) l.length (flat (sortS l)) ∧ (base ≤ w.heap.size → Below base w w') := by
  obtain ⟨_, h0 | ⟨g', cap', cur, e0, hg, hh, hcap, hmax, hsz, htake⟩⟩ := h
  · exact absurd h0.1 (by simp)
  · injection e0 with e1 e2 e3
    injection e1 with e1
    injection e1 with e1
    subst e1
    subst e3
    have eg : ∀ args w, (callFunc 29 args).run Try.prog w = .ok (.enter 29 args) w := enters_of Try.func29 (by kernel_rfl) rfl
    have hlt : g < w.heap.size := blk_lt hh
    have hH : HoldsK enc5 5 w g 0 l.toArray := by
      intro j hj
      rw [size_flatK] at hj
      have hj' : j < l.length * 5 := by simpa using hj
      have hlt : j / 5 < l.length := by omega
      rw [get_flatK _ _ _ _ hj]
      have hx : l[j / 5]? = some l[j / 5] := List.getElem?_eq_getElem hlt
      have e1 : l.toArray[j / 5]! = l[j / 5] := by rw [getElem!_pos l.toArray (j / 5) (by simpa using hlt)]; simp
      have h4 : j % 5 < (enc5 l[j / 5]).length := by show j % 5 < 5; omega
      have hu : (enc5 l[j / 5])[j % 5]? = some ((enc5 l[j / 5])[j % 5]!) := by rw [getElem!_pos (enc5 l[j / 5]) _ h4]; exact List.getElem?_eq_getElem h4
      have h5 := flat_put l (j / 5) _ (j % 5) _ hx hu
      rw [show j / 5 * 5 + j % 5 = j from by omega, ← htake, List.getElem?_take, if_pos hj', Array.getElem?_toList] at h5
      rw [e1, Nat.zero_add]
      exact ⟨(blk_cell hh j).trans h5, blk_frozen hh j⟩
    have hcon := AnyQ.slices_SortFunc_small Try.sortCand 5 Try.isAgg34 Try.sizeOf34 enc5 (fun _ => rfl) enc_one cfC 29 #[] g 0 cap l.toArray w eg (cmpLays_any g 0 l.toArray.size w) hH hlt (by simpa using h12) hlen_any
    change Calls Try.prog 28 _ _ _ at hcon
    refine hcon.mono ?_
    rintro e w' ⟨rfl, n, os, rfl⟩
    have hp := (insertionSort_holds (lt := ltOf cfC) swoC l.toArray 0 l.toArray.size (Nat.zero_le _) (Nat.le_refl _)).1
    have hsz' : (Go.Sort.insertionSort (ltOf cfC) l.toArray 0 l.toArray.size).size = l.toArray.size := hp.1
    have hlen := sortS_size l
    have hb : (sortWorldK enc5 5 w g 0 n (Go.Sort.insertionSort (ltOf cfC) l.toArray 0 l.toArray.size) os).heap[g]? = some (.cells (putCells id 0 (flatK enc5 5 (Go.Sort.insertionSort (ltOf cfC) l.toArray 0 l.toArray.size)) cur) 34 (0, 0)) := by
      show ((w.heap.modify g _) ++ os)[g]? = _
      rw [Array.getElem?_append_left (by simpa using hlt), Array.getElem?_modify, if_pos rfl, hh]
      rfl
    refine ⟨rfl, ⟨by rw [flat_length, hlen], .inr ⟨g, cap, _, rfl, hg, hb, hcap, hmax, ?_, ?_⟩⟩, ?_⟩
    · rw [← hsz]; unfold putCells; exact Array.size_mapIdx ..
    · apply List.ext_getElem?
      intro i
      rw [List.getElem?_take]
      by_cases hi : i < l.length * 5
      · rw [if_pos hi, Array.getElem?_toList]
        have hic : i < cur.size := by rw [hsz]; have := Nat.mul_le_mul_right 5 hcap; omega
        unfold putCells
        rw [Array.getElem?_mapIdx, Array.getElem?_eq_getElem hic, Option.map_some]
        have hsz2 : (flatK enc5 5 (Go.Sort.insertionSort (ltOf cfC) l.toArray 0 l.toArray.size)).size = l.length * 5 := by rw [size_flatK, hsz']; simp
        rw [if_pos ⟨Nat.zero_le _, by rw [hsz2]; omega⟩, Nat.sub_zero, get_flatK _ _ _ _ (by rw [hsz']; simpa using hi)]
        have hja : i / 5 < (Go.Sort.insertionSort (ltOf cfC) l.toArray 0 l.toArray.size).size := by rw [hsz']; simp; omega
        obtain ⟨x, hx⟩ : ∃ x, (sortS l)[i / 5]? = some x := ⟨_, List.getElem?_eq_getElem (by rw [hlen]; omega)⟩
        have e1 : (Go.Sort.insertionSort (ltOf cfC) l.toArray 0 l.toArray.size)[i / 5]! = x := by
          rw [getElem!_pos _ (i / 5) hja]
          unfold sortS at hx
          rw [Array.getElem?_toList, Array.getElem?_eq_getElem hja] at hx
          exact Option.some.inj hx
        rw [e1]
        have h4 : i % 5 < (enc5 x).length := by show i % 5 < 5; omega
        have hu : (enc5 x)[i % 5]? = some ((enc5 x)[i % 5]!) := by rw [getElem!_pos (enc5 x) _ h4]; exact List.getElem?_eq_getElem h4
        have h5 := flat_put (sortS l) (i / 5) _ (i % 5) _ hx hu
        rw [show i / 5 * 5 + i % 5 = i from by omega] at h5
        rw [h5]
        rfl
      · rw [if_neg hi, List.getElem?_eq_none (by rw [flat_length, hlen]; omega)]
    · intro hB
      refine ⟨rfl, rfl, rfl, size_sortWorldK_c enc5 5 w g 0 n _ os, ?_⟩
      intro k hk
      show ((w.heap.modify g _) ++ os)[k]? = w.heap[k]?
      rw [Array.getElem?_append_left (by rw [Array.size_modify]; omega), Array.getElem?_modify, if_neg (by omega)]

set_option maxHeartbeats 2000000 in
theorem insertion_nil (w : World) : Calls Try.prog 42 #[.slice none 0 0, .int .i64 0, .int .i64 0, .func (.func 29) #[] #[]] w fun e w' => e = .returned (.tuple #[]) ∧ w' = w := by
  go_enter Try.func42, Try.ntmps42
  go_wp2
  go_loopw [8, 9] (fun i s9 wr => i = .int .i64 1 ∧ wr = w) (fun _ _ _ => 0)
  · exact ⟨rfl, rfl⟩
  · obtain ⟨rfl, rfl⟩ := hrel
    go_wp2
    go_end0
    exact ⟨rfl, rfl⟩
set_option maxHeartbeats 2000000 in
theorem pdq_nil (lim : Int) (w : World) : Calls Try.prog 37 #[.slice none 0 0, .int .i64 0, .int .i64 0, .int .i64 lim, .func (.func 29) #[] #[]] w fun e w' => e = .returned (.tuple #[]) ∧ w' = w := by
  have hi := insertion_nil
  go_enter Try.func37, Try.ntmps37
  go_wp2
  refine wp_loop_rounds 1 ?_
  rw [rounds_succ]
  go_wp2_with (go_at_call 42; with_reducible refine Calls.mono (hi _) ?_; rintro e w' ⟨rfl, rfl⟩)
  (try simp only [Exit.inBlock, Exit.then]); refine bodyPost_ret (results_none rfl _ _ _) rfl ?_
  exact ⟨rfl, rfl⟩
theorem sort_nil (w : World) : Calls Try.prog 28 #[.slice none 0 0, .func (.func 29) #[] #[]] w fun e w' => e = .returned (.tuple #[]) ∧ w' = w := by
  have hl := Try.bits_Len 0 w (by omega) (by omega)
  go_enter Try.func28, Try.ntmps28
  go_wp2_with (first
    | (go_at_call 38
       with_reducible refine Calls.mono hl ?_
       rintro e w' ⟨rfl, rfl⟩)
    | (go_at_call 37
       with_reducible refine Calls.mono (pdq_nil _ _) ?_
       rintro e w' ⟨rfl, rfl⟩))
  go_end0
  exact ⟨rfl, rfl⟩

set_option maxHeartbeats 1000000 in
theorem ordered_any (A0 : Option Addr) (c0 : Nat) (l : List S34) (w : World) (h12 : l.length ≤ 12) (hr : Kd.C k34 w A0 l.length l) :
    Calls Try.prog 20 #[.slice A0 l.length c0] w fun e w' => ∃ v, e = .returned v ∧ w'.ownsRow w.heap.size 34 5 v l.length (flat (sortS l)) ∧ Below w.heap.size w w' := by
  have hS := clone_any A0 c0 l w (by omega) hr
  replace hS := Aside0.mk hS
  clear hr
  go_enter Try.func20, Try.ntmps20
  go_wp2_with (first
    | (go_at_call 27
       with_reducible refine Calls.mono hS.out ?_
       rintro e w1 ⟨v, rfl, hown, hb⟩
       rcases hown.2 with ⟨rfl, hn⟩ | ⟨g, cap, cur, rfl, hg, hh, hcap⟩)
    | (go_at_call 28
       with_reducible refine Calls.mono (sort_nil _) ?_
       rintro e w2 ⟨rfl, rfl⟩)
    | (go_at_call 28
       with_reducible refine Calls.mono (sort_some w.heap.size g cap l _ hown h12) ?_
       rintro e w2 ⟨rfl, hown2, hb2⟩))
  · obtain rfl := List.eq_nil_of_length_eq_zero hn
    have e0 : sortS [] = [] := List.eq_nil_of_length_eq_zero (sortS_size [])
    go_ret
    refine ⟨_, rfl, ?_, hb⟩
    rw [e0]
    exact own_nil _ _ _ _
  · go_ret
    exact ⟨_, rfl, hown2, hb.trans (hb2 hb.size)⟩

/-- where two numbers differ, the order is strict: a sorted list is one alone -/
theorem sorted_unique : ∀ (l m : List S34), l.Perm m → (∀ (i j : Nat) (x y : S34), i < j → l[i]? = some x → l[j]? = some y → ltP x y) → (∀ (i j : Nat) (x y : S34), i < j → m[i]? = some x → m[j]? = some y → ltP x y) → l = m := by
  have irr : ∀ x, ¬ ltP x x := fun x => by unfold ltP; omega
  have tr : ∀ x y, ltP x y → ltP y x → False := fun x y h k => by unfold ltP at *; omega
  intro l
  induction l with
  | nil => intro m hp _ _; exact hp.nil_eq
  | cons a r ih =>
    intro m hp hl hm
    cases m with
    | nil => exact absurd hp.length_eq (by simp)
    | cons b s =>
      have e : a = b := by
        have h1 : a ∈ b :: s := hp.subset (List.mem_cons_self)
        have h2 : b ∈ a :: r := hp.symm.subset (List.mem_cons_self)
        rcases List.mem_cons.1 h1 with h1 | h1
        · exact h1
        · rcases List.mem_cons.1 h2 with h2 | h2
          · exact h2.symm
          · exfalso
            obtain ⟨i, hi⟩ := List.mem_iff_getElem?.1 h1
            obtain ⟨j, hj⟩ := List.mem_iff_getElem?.1 h2
            exact tr _ _ (hm 0 (i + 1) b a (by omega) rfl (by simpa using hi)) (hl 0 (j + 1) a b (by omega) rfl (by simpa using hj))
      subst e
      rw [ih s (List.Perm.cons_inv hp) (fun i j x y hij hx hy => hl (i + 1) (j + 1) x y (by omega) (by simpa using hx) (by simpa using hy)) (fun i j x y hij hx hy => hm (i + 1) (j + 1) x y (by omega) (by simpa using hx) (by simpa using hy))]

/-- the plain order: one after the other is put in its place -/
def put (x : S34) : List S34 → List S34
  | [] => [x]
  | y :: r => if ltP x y then x :: y :: r else y :: put x r
def isort : List S34 → List S34
  | [] => []
  | x :: r => put x (isort r)
theorem put_perm (x : S34) : ∀ l, (put x l).Perm (x :: l)
  | [] => List.Perm.refl _
  | y :: r => by
    unfold put
    split
    · exact List.Perm.refl _
    · exact ((put_perm x r).cons y).trans (List.Perm.swap x y r)
theorem isort_perm : ∀ l, (isort l).Perm l
  | [] => List.Perm.refl _
  | x :: r => (put_perm x (isort r)).trans ((isort_perm r).cons x)
/-- no two of the same number -/
def ids (l : List S34) : Prop := l.Pairwise fun x y => x.f0 ≠ y.f0
theorem ids_perm {l m : List S34} (h : l.Perm m) (k : ids l) : ids m := List.Perm.pairwise h k (fun {_ _} h => Ne.symm h)
/-- each before all that come later -/
def strict (l : List S34) : Prop := l.Pairwise ltP
theorem strict_get {l : List S34} (h : strict l) (i j : Nat) (x y : S34) (hij : i < j) (hx : l[i]? = some x) (hy : l[j]? = some y) : ltP x y := by
  obtain ⟨hi, rfl⟩ := List.getElem?_eq_some_iff.1 hx
  obtain ⟨hj, rfl⟩ := List.getElem?_eq_some_iff.1 hy
  exact List.pairwise_iff_getElem.1 h i j hi hj hij
theorem ltP_trans {x y z : S34} (h : ltP x y) (k : ltP y z) : ltP x z := by unfold ltP at *; omega
theorem ltP_tot {x y : S34} (h : x.f0 ≠ y.f0) (k : ¬ ltP x y) : ltP y x := by unfold ltP at *; omega
theorem put_strict (x : S34) : ∀ l, strict l → (∀ y, y ∈ l → x.f0 ≠ y.f0) → strict (put x l)
  | [], _, _ => List.pairwise_singleton _ _
  | y :: r, h, hx => by
    have h1 := List.pairwise_cons.1 h
    unfold put
    split
    · rename_i hlt
      refine List.pairwise_cons.2 ⟨fun z hz => ?_, h⟩
      rcases List.mem_cons.1 hz with rfl | hz
      · exact hlt
      · exact ltP_trans hlt (h1.1 z hz)
    · rename_i hlt
      refine List.pairwise_cons.2 ⟨fun z hz => ?_, put_strict x r h1.2 (fun z hz => hx z (List.mem_cons_of_mem _ hz))⟩
      rcases List.mem_cons.1 ((put_perm x r).subset hz) with rfl | hz
      · exact ltP_tot (hx y List.mem_cons_self) hlt
      · exact h1.1 z hz
theorem isort_strict : ∀ l, ids l → strict (isort l)
  | [], _ => List.Pairwise.nil
  | x :: r, h => put_strict x _ (isort_strict r (List.pairwise_cons.1 h).2) fun y hy => (List.pairwise_cons.1 h).1 y ((isort_perm r).subset hy)
theorem sortS_isort (l : List S34) (h : ids l) : sortS l = isort l := by
  refine sorted_unique _ _ ((sortS_perm l).trans (isort_perm l).symm) ?_ fun i j x y hij hx hy => strict_get (isort_strict l h) i j x y hij hx hy
  intro i j x y hij hx hy
  have h1 := sortS_sorted l i j hij x y hx hy
  have h2 := ids_perm (sortS_perm l).symm h
  obtain ⟨hi, rfl⟩ := List.getElem?_eq_some_iff.1 hx
  obtain ⟨hj, rfl⟩ := List.getElem?_eq_some_iff.1 hy
  exact ltP_tot (Ne.symm (List.pairwise_iff_getElem.1 h2 i j hi hj hij)) h1
theorem isort_same : ∀ l, strict l → isort l = l
  | [], _ => rfl
  | [x], _ => rfl
  | x :: y :: r, h => by
    have h1 := List.pairwise_cons.1 h
    show put x (isort (y :: r)) = _
    rw [isort_same (y :: r) h1.2]
    unfold put
    rw [if_pos (h1.1 y List.mem_cons_self)]
end Go.Proofs.Ytbcmfmlbagjdoaa.Ca
