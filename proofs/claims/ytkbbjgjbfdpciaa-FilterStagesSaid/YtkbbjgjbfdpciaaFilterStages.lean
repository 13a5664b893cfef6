/- FilterStages: walked. -/
import Derived.Test.YtkbbjgjbfdpciaaFs
import Derived.Deep.RegionHeld3
namespace Go.Proofs.Ytkbbjgjbfdpciaa.Fi
open Go Go.RowKit Go.Proofs.YtkbbjgjbfdpciaaW.PrintWords Go.Proofs.YtkbbjgjbfdpciaaW.PrintLast Go.Proofs.YtkbbjgjbfdpciaaW.PrintMore Go.Proofs.Ytkbbjgjbfdpciaa.PAll Go.Proofs.Ytkbbjgjbfdpciaa.Pure
set_option linter.unusedVariables false
set_option linter.unusedSimpArgs false

theorem cells4_below {B : Nat} {w w' : World} {a : Addr} {q0 q1 q2 q3 : Value} (hb : Below B w w') (hlt : a.block < B)
    (R : w.cell? a = some q0 ∧ w.cell? ⟨a.block, a.off + 1, none⟩ = some q1 ∧ w.cell? ⟨a.block, a.off + 2, none⟩ = some q2 ∧ w.cell? ⟨a.block, a.off + 3, none⟩ = some q3) :
    w'.cell? a = some q0 ∧ w'.cell? ⟨a.block, a.off + 1, none⟩ = some q1 ∧ w'.cell? ⟨a.block, a.off + 2, none⟩ = some q2 ∧ w'.cell? ⟨a.block, a.off + 3, none⟩ = some q3 := by
  have e : ∀ x : Addr, x.block = a.block → w'.cell? x = w.cell? x := fun x hx => World.cell?_of_block (hb.block x.block (by rw [hx]; exact hlt))
  exact ⟨(e a rfl).trans R.1, (e ⟨a.block, a.off + 1, none⟩ rfl).trans R.2.1, (e ⟨a.block, a.off + 2, none⟩ rfl).trans R.2.2.1, (e ⟨a.block, a.off + 3, none⟩ rfl).trans R.2.2.2⟩
theorem cells4_upd {b : Nat} {w w' : World} {a : Addr} {q0 q1 q2 q3 : Value} (hb : Upd w w' b) (hlt : a.block < w.heap.size) (hne : a.block ≠ b)
    (R : w.cell? a = some q0 ∧ w.cell? ⟨a.block, a.off + 1, none⟩ = some q1 ∧ w.cell? ⟨a.block, a.off + 2, none⟩ = some q2 ∧ w.cell? ⟨a.block, a.off + 3, none⟩ = some q3) :
    w'.cell? a = some q0 ∧ w'.cell? ⟨a.block, a.off + 1, none⟩ = some q1 ∧ w'.cell? ⟨a.block, a.off + 2, none⟩ = some q2 ∧ w'.cell? ⟨a.block, a.off + 3, none⟩ = some q3 := by
  have e : ∀ x : Addr, x.block = a.block → w'.cell? x = w.cell? x := fun x hx => World.cell?_of_block (hb.block x.block (by rw [hx]; exact hlt) (by rw [hx]; exact hne))
  exact ⟨(e a rfl).trans R.1, (e ⟨a.block, a.off + 1, none⟩ rfl).trans R.2.1, (e ⟨a.block, a.off + 2, none⟩ rfl).trans R.2.2.1, (e ⟨a.block, a.off + 3, none⟩ rfl).trans R.2.2.2⟩
def fs8.T : Bool × List (List Nat × List Nat) := (true, [([], []), ([], []), ([0, 1], [0, 1]), ([2], [2]), ([3], [3]), ([4], [4]), ([5, 4], [5]), ([6], [6]), ([7, 6], [6, 7]), ([8, 6], [6, 8]), ([9, 6, 6], [6, 9]), ([10], [10]), ([10], [10]), ([11, 12, 10], [10, 11, 12]), ([13, 10], [10, 13]), ([14, 10], [10, 14]), ([10], [10]), ([10], [10]), ([17, 10], [10, 17]), ([18, 10], [10, 18]), ([16, 19, 10], [10, 16, 19]), ([20, 10], [10, 20]), ([21, 10], [10, 21]), ([15, 22, 10], [10, 15, 22]), ([10, 23, 6], [6, 10, 23]), ([6, 24], [6, 24]), ([25, 10, 0, 1, 2, 3, 4, 5, 6, 7, 8, 9, 10, 11, 12, 13, 14, 15, 16, 17, 18, 19, 20, 21, 22, 23, 24, 25], [25])])
def fs8.B : List Nat := [0, 0, 3, 7, 15, 31, 63, 127, 255, 511, 1023, 2047, 2047, 8191, 16383, 32767, 2047, 2047, 133119, 395263, 985087, 2033663, 4130815, 8388607, 16777215, 33554431, 67108863]
theorem fs8.tab : rtab .any (opsOf Try.f3 8) = fs8.T := by kernel_rfl
theorem fs8.bits : waitsOk fs8.T.2 fs8.B = true := by kernel_rfl


theorem min2_mn (k k' : IntKind) (x y : Int) : Builtin.min2 (.int k x) (.int k' y) = pure (.int k (mn x y)) := min2_int k k' x y
attribute [local go_sem] min2_mn min_two
theorem own_upd {w w1 : World} {base b n : Nat} {v : Value} {xs : List Value} (h : w.ownsRow base 29 4 v n xs) (k : Upd w w1 b) (hb : b < base) : w1.ownsRow base 29 4 v n xs :=
  own_move h fun q hq => k.block q (own_lt h q hq) (by have := own_base h q hq; omega)
theorem own_below {w w1 : World} {base n : Nat} {v : Value} {xs : List Value} (h : w.ownsRow base 29 4 v n xs) (k : Below w.heap.size w w1) : w1.ownsRow base 29 4 v n xs :=
  own_move h fun q hq => k.block q (own_lt h q hq)
theorem own_drew {w : World} {base n : Nat} {v : Value} {xs : List Value} (h : w.ownsRow base 29 4 v n xs) : w.drew.ownsRow base 29 4 v n xs := own_move h fun q hq => rfl
theorem C_drew {w : World} {A : Option Addr} {n : Nat} {xs : List S29} (h : Kd.C k29 w A n xs) : Kd.C k29 w.drew A n xs := h
attribute [local go_sem] min2_mn min_two
attribute [local go_sem] min2_mn min_two
theorem flat_snoc (l : List S29) (x : S29) : flat (l ++ [x]) = flat l ++ enc4 x := by unfold flat; rw [List.flatMap_append]; simp
theorem enc_cells {w : World} {g : Nat} {p0 p1 p2 p3 : Int} (h : w.heap[g]? = some (.cells #[.int .i64 p0, .int .i64 p1, .int .i64 p2, .int .i64 p3] 29 (0, 0))) : ∀ j u, (enc4 ⟨p0, p1, p2, p3⟩)[j]? = some u → w.cell? (Addr.add ⟨g, 0, none⟩ j) = some u := by
  intro j u hu
  rw [Addr.add_lit, Nat.zero_add, blk_cell h]
  match j, hu with
  | 0, hu => exact hu
  | 1, hu => exact hu
  | 2, hu => exact hu
  | 3, hu => exact hu
  | j + 4, hu => simp [enc4] at hu
theorem Fil.grown {w w1 : World} {b : Nat} {tol : Int} {l : List S29} {fresh : Int} {row : Option Nat} (h : Fil w b tol l fresh) (k : w.grownBy w1 row) (hr : ∀ q, row = some q → b + 1 ≤ q) : Fil w1 b tol l fresh := by
  obtain ⟨cs, hb, hc⟩ := h
  exact ⟨cs, (k.block b (blk_lt hb) (fun e => by have := hr b e.symm; omega)).trans hb, hc⟩
/-- what the rest of a round needs of the row that is kept -/
theorem kept_slice {w : World} {base : Nat} {vk : Value} {l : List S29} (h : w.ownsRow base 29 4 vk l.length (flat l)) (h100 : l.length ≤ 100) :
    ∃ (A0 : Option Addr) (c0 : Nat) (A1 : Option Addr) (c1 : Nat), vk = .slice A0 l.length c0 ∧ (∀ W, Sem.run Try.prog (Instr.sliceAt 22 vk (some (.int .i64 ((l.length - (last8 l).length : Nat) : Int))) none none) W = .ok (.slice A1 (last8 l).length c1) W) ∧ Kd.C k29 w A1 (last8 l).length (last8 l) ∧ (last8 l).length ≤ c1 := by
  have hl8 := last8_len l
  have ht : Try.prog.underlying 22 = some (.slice (Try.prog.elem 22)) := by
    have he : Try.prog.elem 22 = 29 := by kernel_rfl
    rw [he]; exact Try.underlying22
  have he : Try.prog.elem 22 = 29 := by kernel_rfl
  have hsl : ∀ (A0 : Option Addr) (c0 : Nat) (W : World), Sem.run Try.prog (Instr.sliceAt 22 (.slice A0 l.length c0) (some (.int .i64 ((l.length - (last8 l).length : Nat) : Int))) none none) W = .ok (.slice (if c0 = l.length - (last8 l).length then A0 else A0.map (·.add ((l.length - (last8 l).length) * 4))) (last8 l).length (c0 - (l.length - (last8 l).length))) W := by
    intro A0 c0 W
    rw [run_sliceAt_slice (h := ht), run_slice_l (ht := ht) (h0 := by omega) (h1 := by omega), he, Try.sizeOf29]
    have e1 : ((l.length - (last8 l).length : Nat) : Int).toNat = l.length - (last8 l).length := Int.toNat_natCast _
    have e2 : l.length - (l.length - (last8 l).length) = (last8 l).length := by omega
    show Result.ok (sliced A0 ((l.length - (last8 l).length : Nat) : Int).toNat l.length c0 4) W = _
    rw [e1]
    unfold sliced
    rw [e2]
  obtain ⟨hlen, ⟨rfl, h0⟩ | ⟨g, cap, cur, rfl, hg, hh, hcap, hmax, hsz, htake⟩⟩ := h
  · have hn : l = [] := List.length_eq_zero_iff.1 h0
    subst hn
    exact ⟨none, 0, _, _, rfl, hsl none 0, ⟨rfl, by decide, fun h => by cases h⟩, Nat.zero_le _⟩
  · refine ⟨some ⟨g, 0, none⟩, cap, _, _, rfl, hsl _ cap, ⟨rfl, by omega, fun hpos => ?_⟩, by omega⟩
    have hne : ¬ cap = l.length - (last8 l).length := by omega
    rw [if_neg hne]
    refine ⟨⟨g, 0 + (l.length - (last8 l).length) * 4, none⟩, by rw [Option.map_some, Addr.add_lit], fun j q hq => ⟨enc4 q, rfl, k29_mk w q, fun i u hu => ?_⟩⟩
    rw [Addr.add_lit, blk_cell hh]
    have hq' : l[(l.length - (last8 l).length) + j]? = some q := by
      unfold last8 at hq
      rw [List.getElem?_drop] at hq
      rw [hl8]
      exact hq
    have h1 := flat_put l _ q i u hq' hu
    rw [← htake, List.getElem?_take] at h1
    split at h1
    · rw [Array.getElem?_toList] at h1
      have e : 0 + (l.length - (last8 l).length) * 4 + (j * 4 + i) = (l.length - (last8 l).length + j) * 4 + i := by omega
      show cur[0 + (l.length - (last8 l).length) * 4 + (j * 4 + i)]? = some u
      rw [e]; exact h1
    · cases h1
/-- the last of the row that is kept -/
theorem kept_last {w : World} {base : Nat} {vk : Value} {l : List S29} (h : w.ownsRow base 29 4 vk l.length (flat l)) {j : Nat} {y : S29} (hj : l.length = j + 1) (hy : l[j]? = some y) :
    ∃ g c0, vk = .slice (some ⟨g, 0, none⟩) l.length c0 ∧ base ≤ g ∧ g < w.heap.size ∧ w.cell? ⟨g, j * 4 + 3, none⟩ = some (.int .i64 y.f3) := by
  obtain ⟨hlen, ⟨rfl, h0⟩ | ⟨g, cap, cur, rfl, hg, hh, hcap, hmax, hsz, htake⟩⟩ := h
  · omega
  · refine ⟨g, cap, rfl, hg, blk_lt hh, ?_⟩
    rw [blk_cell hh]
    have h1 := flat_put l j y 3 (.int .i64 y.f3) hy rfl
    rw [← htake, List.getElem?_take] at h1
    split at h1
    · rwa [Array.getElem?_toList] at h1
    · cases h1

set_option maxRecDepth 8000 in
set_option maxHeartbeats 4000000 in
theorem FilterStages_go (tol : Int) (A : Option Addr) (len cap : Nat) (l : List (Int × Int × Int × Int)) (w : World) (hl : Rk.Row w A len cap l) (h0 : 0 ≤ tol) (h1 : tol ≤ 500000) (h40 : len ≤ 40) :
    Calls Try.prog 3 #[.int .i64 tol, .slice A len cap] w fun e w' => e = .returned (.bool true) ∧ Below w.heap.size w w' := by
  have hN := Aside0.mk (fun W => new_ok tol W h0 h1)
  have q1 : ¬ (40 : Int) < (len : Int) := by omega
  have q2 : ¬ 40 < len := by omega
  replace hl := Aside0.mk hl
  go_enter Try.func3, Try.ntmps3
  go_wp2_with (first
    | (go_at_call 8
       with_reducible refine Calls.mono (hN.out _) ?_
       rintro e w1 ⟨rfl, F1, B1⟩))
  have q7 := F1.lt
  go_loopw [6, 7] (fun vk i wr => ∃ (k : Nat) (kept : List S29), k ≤ len ∧ i = .int .i64 k ∧ kept.length ≤ k ∧ wr.ownsRow (w.heap.size + 1) 29 4 vk kept.length (flat kept) ∧ Fil wr w.heap.size tol (last8 kept) (-9223372036854775808) ∧ Below w.heap.size w wr) (fun _ i _ => len - (intOf i).toNat)
  · exact ⟨0, [], by omega, rfl, Nat.le_refl _, World.ownsRow_nil _ _ _ _, F1, B1⟩
  · obtain ⟨k, kept, hk, rfl, hkk, hown, hF, hL⟩ := hrel
    clear F1 B1 q7
    by_cases hlt : k < len
    · have hd := hl.out.below hL (fun a ha hl0 => hl.out.low a ha hl0)
      obtain ⟨a, rfl⟩ : ∃ a, A = some a := by
        cases A with
        | none => have := hl.out.nil rfl; omega
        | some a => exact ⟨a, rfl⟩
      have hkl : k < l.length := by rw [hd.cnt]; exact hlt
      have hlow := hl.out.low a rfl (by omega)
      have hbk : (a.add (k * 4)).block < w.heap.size := by rw [Rk.addr_block]; exact hlow
      have hdc := hd.cell a rfl k _ (List.getElem?_eq_getElem hkl)
      have hdc0 := hl.out.cell a rfl k _ (List.getElem?_eq_getElem hkl)
      obtain ⟨d0, d1, d2, d3⟩ := hdc
      generalize l[k] = p at *
      obtain ⟨p0, p1, p2, p3⟩ := p
      dsimp only at d0 d1 d2 d3 hdc0
      have hkkI : (k : Int) < (len : Int) := by omega
      have hk0 : (0 : Int) ≤ (k : Int) := by omega
      have hCk := fun W => check_any ⟨p0, p1, p2, p3⟩ W
      clear hd
      by_cases hok : okS ⟨p0, p1, p2, p3⟩
      · have hEr : addE (last8 kept) ⟨p0, p1, p2, p3⟩ = if fits kept ⟨p0, p1, p2, p3⟩ then 0 else 12 := by unfold addE; rw [if_pos hok, fits_last]
        obtain ⟨kept2, hk2⟩ : ∃ q, q = kept ++ [⟨p0, p1, p2, p3⟩] := ⟨_, rfl⟩
        have hk2le : kept2.length ≤ k + 1 := by rw [hk2]; simp; omega
        have hLr : addL (last8 kept) ⟨p0, p1, p2, p3⟩ = if fits kept ⟨p0, p1, p2, p3⟩ then last8 kept2 else last8 kept := by unfold addL; rw [if_pos hok, fits_last, last8_push, hk2]
        replace hk2 := Aside0.mk hk2
        simp only [if_pos hok] at hCk
        replace hCk := Aside0.mk hCk
        cases hlast : kept.getLast? with
        | none =>
          have hn : kept = [] := List.getLast?_eq_none_iff.1 hlast
          have hkl0 : kept.length = 0 := by rw [hn]; rfl
          have hft : fits kept ⟨p0, p1, p2, p3⟩ = true := by rw [hn]; rfl
          rw [hft, if_pos rfl] at hEr hLr
          have hA := Aside0.mk (fun W h => add_to w.heap.size tol (last8 kept) (last8 kept2) (-9223372036854775808) ⟨p0, p1, p2, p3⟩ 0 hEr hLr W h)
          obtain ⟨A0, c0, A1, c1, hvk, hsl1, hC1, hc1⟩ := kept_slice hown (by omega)
          subst hvk
          have hkb : ((kept.length : Int) == 0) = true := by rw [hkl0]; rfl
          have hkbN : (kept.length == 0) = true := by rw [hkl0]; rfl
          have hkbP : kept.length = 0 := hkl0
          have hmn : mn (kept2.length : Int) 8 = ((last8 kept2).length : Int) := by rw [last8_len]; unfold mn; split <;> omega
          have hsub : IntKind.i64.wrap ((kept2.length : Int) - ((last8 kept2).length : Int)) = ((kept2.length - (last8 kept2).length : Nat) : Int) := by
            have h1 := last8_len kept2
            have e : (kept2.length : Int) - ((last8 kept2).length : Int) = ((kept2.length - (last8 kept2).length : Nat) : Int) := by omega
            rw [e]; exact wrapk _ (by omega)
          replace hown := Aside0.mk hown
          replace hF := Aside0.mk hF
          clear hsl1 hC1 hc1 hEr hLr hn hlast hft hkl0 hkbP
          go_wp2
          refine start_ (n := 27) (S := (fun w' => w'.cell? (a.add (k * 4)) = some (.int .i64 p0) ∧ w'.cell? ⟨(a.add (k * 4)).block, (a.add (k * 4)).off + 1, none⟩ = some (.int .i64 p1) ∧ w'.cell? ⟨(a.add (k * 4)).block, (a.add (k * 4)).off + 2, none⟩ = some (.int .i64 p2) ∧ w'.cell? ⟨(a.add (k * 4)).block, (a.add (k * 4)).off + 3, none⟩ = some (.int .i64 p3))) (ds := []) #[false, false, false, false, false, false, false, false, false, false, false, false, false, false, false, false, false, false, false, false, false, false, false, false, false, false, false] (by kernel_rfl) rfl rfl (⟨d0, d1, d2, d3⟩) (fun hHeld => ?_); refine with_tabW fs8.tab fs8.bits (fun HT_ HW_ => ?_)
          refine pure_ (i := 0) (N := some 38) (v := ?_) (a' := ?_) #[true, false, false, false, false, false, false, false, false, false, false, false, false, false, false, false, false, false, false, false, false, false, false, false, false, false, false] rfl rfl (any_of HT_.out (by kernel_rfl)) (fun _ _ _ h => h) (Or.inl ⟨by rfl, ?_⟩) ?_ ?_
          rotate_left
          · intro w'
            go_simp
            with_reducible rfl
          rotate_left
          · simp only [Act.put, z1, z2, z3, i64_w, i32_w]
            rfl
          refine pure_ (i := 1) (N := some 39) (v := ?_) (a' := ?_) #[true, true, false, false, false, false, false, false, false, false, false, false, false, false, false, false, false, false, false, false, false, false, false, false, false, false, false] rfl rfl (any_of HT_.out (by kernel_rfl)) (fun _ _ _ h => h) (Or.inl ⟨by rfl, ?_⟩) ?_ ?_
          rotate_left
          · intro w'
            go_simp
            with_reducible rfl
          rotate_left
          · simp only [Act.put, z1, z2, z3, i64_w, i32_w]
            rfl
          refine pure_ (i := 2) (N := some 40) (v := ?_) (a' := ?_) #[true, true, true, false, false, false, false, false, false, false, false, false, false, false, false, false, false, false, false, false, false, false, false, false, false, false, false] rfl rfl (any_of HT_.out (by kernel_rfl)) (fun _ _ _ h => h) (Or.inl ⟨by rfl, ?_⟩) ?_ ?_
          rotate_left
          · intro w'
            go_simp
            with_reducible rfl
          rotate_left
          · simp only [Act.put, z1, z2, z3, i64_w, i32_w]
            rfl
          refine take_ (i := 3) (N := some 41) (v := ?_) (a' := ?_) #[true, true, true, true, false, false, false, false, false, false, false, false, false, false, false, false, false, false, false, false, false, false, false, false, false, false, false] rfl rfl (take_ofW HT_.out HW_.out (by kernel_rfl)) (fun _ _ _ h => h) (Or.inl ⟨by rfl, ?_⟩) hHeld ?_ ?_
          rotate_left
          · rintro w' ⟨s0, s1, s2, s3⟩
            go_simp
            with_reducible rfl
          rotate_left
          · simp only [Act.put, z1, z2, z3, i64_w, i32_w]
            rfl
          refine one_ (i := 4) (N := some 42) #[true, true, true, true, true, false, false, false, false, false, false, false, false, false, false, false, false, false, false, false, false, false, false, false, false, false, false] rfl rfl (one_of HT_.out (by kernel_rfl)) (by decide) (fun K hK => ?_)
          refine goes_ Try.func10 (by kernel_rfl) rfl #[.agg #[.int .i64 p0, .int .i64 p1, .int .i64 p2, .int .i64 p3]] (by rfl) rfl rfl sl_ ?_
          with_reducible refine Calls.mono (hCk.out _) ?_
          rintro e w' ⟨rfl, hb⟩
          have L2 := below_on hL hb rfl rfl rfl rfl
          have R2 := cells4_below L2 hbk hdc0
          refine ⟨_, rfl, ?_⟩
          refine hK.out _ _ (R2) (fun hHeld => ?_)
          clear hK K
          refine norm_ (a' := ?_) ?_ ?_
          rotate_left
          · show Act.put _ (some 42) _ = _
            simp only [Act.put, z1, z2, z3, i64_w, i32_w]
            rfl
          refine pure_ (i := 5) (N := some 43) (v := ?_) (a' := ?_) #[true, true, true, true, true, true, false, false, false, false, false, false, false, false, false, false, false, false, false, false, false, false, false, false, false, false, false] rfl rfl (any_of HT_.out (by kernel_rfl)) (fun _ _ _ h => h) (Or.inl ⟨by rfl, ?_⟩) ?_ ?_
          rotate_left
          · intro w'
            go_simp
            with_reducible rfl
          rotate_left
          · simp only [Act.put, z1, z2, z3, i64_w, i32_w]
            rfl
          refine pure_ (i := 6) (N := some 44) (v := ?_) (a' := ?_) #[true, true, true, true, true, true, true, false, false, false, false, false, false, false, false, false, false, false, false, false, false, false, false, false, false, false, false] rfl rfl (any_of HT_.out (by kernel_rfl)) (fun _ _ _ h => h) (Or.inl ⟨by rfl, ?_⟩) ?_ ?_
          rotate_left
          · intro w'
            go_simp
            with_reducible rfl
          rotate_left
          · simp only [Act.put, z1, z2, z3, i64_w, i32_w]
            rfl
          refine pure_ (i := 7) (N := some 45) (v := ?_) (a' := ?_) #[true, true, true, true, true, true, true, true, false, false, false, false, false, false, false, false, false, false, false, false, false, false, false, false, false, false, false] rfl rfl (any_of HT_.out (by kernel_rfl)) (fun _ _ _ h => h) (Or.inl ⟨by rfl, ?_⟩) ?_ ?_
          rotate_left
          · intro w'
            go_simp
            with_reducible rfl
          rotate_left
          · simp only [Act.put, z1, z2, z3, i64_w, i32_w]
            rfl
          refine pure_ (i := 8) (N := some 46) (v := ?_) (a' := ?_) #[true, true, true, true, true, true, true, true, true, false, false, false, false, false, false, false, false, false, false, false, false, false, false, false, false, false, false] rfl rfl (any_of HT_.out (by kernel_rfl)) (fun _ _ _ h => h) (Or.inl ⟨by rfl, ?_⟩) ?_ ?_
          rotate_left
          · intro w'
            go_simp
            with_reducible rfl
          rotate_left
          · simp only [Act.put, z1, z2, z3, i64_w, i32_w]
            rfl
          refine pure_ (i := 9) (N := some 47) (v := ?_) (a' := ?_) #[true, true, true, true, true, true, true, true, true, true, false, false, false, false, false, false, false, false, false, false, false, false, false, false, false, false, false] rfl rfl (any_of HT_.out (by kernel_rfl)) (fun _ _ _ h => h) (Or.inl ⟨by rfl, ?_⟩) ?_ ?_
          rotate_left
          · intro w'
            go_simp
            with_reducible rfl
          rotate_left
          · simp only [Act.put, z1, z2, z3, i64_w, i32_w]
            rfl
          refine pure_ (i := 10) (N := some 48) (v := ?_) (a' := ?_) #[true, true, true, true, true, true, true, true, true, true, true, false, false, false, false, false, false, false, false, false, false, false, false, false, false, false, false] rfl rfl (any_of HT_.out (by kernel_rfl)) (fun _ _ _ h => h) (Or.inl ⟨by rfl, ?_⟩) ?_ ?_
          rotate_left
          · intro w'
            go_simp
            with_reducible rfl
          rotate_left
          · simp only [Act.put, z1, z2, z3, i64_w, i32_w]
            rfl
          refine pure_ (i := 11) (N := some 49) (v := undef) (a' := ?_) #[true, true, true, true, true, true, true, true, true, true, true, true, false, false, false, false, false, false, false, false, false, false, false, false, false, false, false] rfl rfl (any_of HT_.out (by kernel_rfl)) (fun _ _ _ h => h) (Or.inr ⟨by rfl, rfl⟩) ?_ ?_
          rotate_left
          · simp only [Act.put, z1, z2, z3, i64_w, i32_w]
            rfl
          refine pure_ (i := 12) (N := some 50) (v := undef) (a' := ?_) #[true, true, true, true, true, true, true, true, true, true, true, true, true, false, false, false, false, false, false, false, false, false, false, false, false, false, false] rfl rfl (any_of HT_.out (by kernel_rfl)) (fun _ _ _ h => h) (Or.inr ⟨by rfl, rfl⟩) ?_ ?_
          rotate_left
          · simp only [Act.put, z1, z2, z3, i64_w, i32_w]
            rfl
          refine pure_ (i := 13) (N := some 51) (v := undef) (a' := ?_) #[true, true, true, true, true, true, true, true, true, true, true, true, true, true, false, false, false, false, false, false, false, false, false, false, false, false, false] rfl rfl (any_of HT_.out (by kernel_rfl)) (fun _ _ _ h => h) (Or.inr ⟨by rfl, rfl⟩) ?_ ?_
          rotate_left
          · simp only [Act.put, z1, z2, z3, i64_w, i32_w]
            rfl
          refine pure_ (i := 14) (N := some 52) (v := undef) (a' := ?_) #[true, true, true, true, true, true, true, true, true, true, true, true, true, true, true, false, false, false, false, false, false, false, false, false, false, false, false] rfl rfl (any_of HT_.out (by kernel_rfl)) (fun _ _ _ h => h) (Or.inr ⟨by rfl, rfl⟩) ?_ ?_
          rotate_left
          · simp only [Act.put, z1, z2, z3, i64_w, i32_w]
            rfl
          refine pure_ (i := 15) (N := some 53) (v := undef) (a' := ?_) #[true, true, true, true, true, true, true, true, true, true, true, true, true, true, true, true, false, false, false, false, false, false, false, false, false, false, false] rfl rfl (any_of HT_.out (by kernel_rfl)) (fun _ _ _ h => h) (Or.inr ⟨by rfl, rfl⟩) ?_ ?_
          rotate_left
          · simp only [Act.put, z1, z2, z3, i64_w, i32_w]
            rfl
          refine pure_ (i := 16) (N := some 54) (v := undef) (a' := ?_) #[true, true, true, true, true, true, true, true, true, true, true, true, true, true, true, true, true, false, false, false, false, false, false, false, false, false, false] rfl rfl (any_of HT_.out (by kernel_rfl)) (fun _ _ _ h => h) (Or.inr ⟨by rfl, rfl⟩) ?_ ?_
          rotate_left
          · simp only [Act.put, z1, z2, z3, i64_w, i32_w]
            rfl
          refine pure_ (i := 17) (N := some 55) (v := undef) (a' := ?_) #[true, true, true, true, true, true, true, true, true, true, true, true, true, true, true, true, true, true, false, false, false, false, false, false, false, false, false] rfl rfl (any_of HT_.out (by kernel_rfl)) (fun _ _ _ h => h) (Or.inr ⟨by rfl, rfl⟩) ?_ ?_
          rotate_left
          · simp only [Act.put, z1, z2, z3, i64_w, i32_w]
            rfl
          refine pure_ (i := 18) (N := some 56) (v := undef) (a' := ?_) #[true, true, true, true, true, true, true, true, true, true, true, true, true, true, true, true, true, true, true, false, false, false, false, false, false, false, false] rfl rfl (any_of HT_.out (by kernel_rfl)) (fun _ _ _ h => h) (Or.inr ⟨by rfl, rfl⟩) ?_ ?_
          rotate_left
          · simp only [Act.put, z1, z2, z3, i64_w, i32_w]
            rfl
          refine pure_ (i := 19) (N := some 57) (v := undef) (a' := ?_) #[true, true, true, true, true, true, true, true, true, true, true, true, true, true, true, true, true, true, true, true, false, false, false, false, false, false, false] rfl rfl (any_of HT_.out (by kernel_rfl)) (fun _ _ _ h => h) (Or.inr ⟨by rfl, rfl⟩) ?_ ?_
          rotate_left
          · simp only [Act.put, z1, z2, z3, i64_w, i32_w]
            rfl
          refine pure_ (i := 20) (N := some 58) (v := undef) (a' := ?_) #[true, true, true, true, true, true, true, true, true, true, true, true, true, true, true, true, true, true, true, true, true, false, false, false, false, false, false] rfl rfl (any_of HT_.out (by kernel_rfl)) (fun _ _ _ h => h) (Or.inr ⟨by rfl, rfl⟩) ?_ ?_
          rotate_left
          · simp only [Act.put, z1, z2, z3, i64_w, i32_w]
            rfl
          refine pure_ (i := 21) (N := some 59) (v := undef) (a' := ?_) #[true, true, true, true, true, true, true, true, true, true, true, true, true, true, true, true, true, true, true, true, true, true, false, false, false, false, false] rfl rfl (any_of HT_.out (by kernel_rfl)) (fun _ _ _ h => h) (Or.inr ⟨by rfl, rfl⟩) ?_ ?_
          rotate_left
          · simp only [Act.put, z1, z2, z3, i64_w, i32_w]
            rfl
          refine pure_ (i := 22) (N := some 60) (v := undef) (a' := ?_) #[true, true, true, true, true, true, true, true, true, true, true, true, true, true, true, true, true, true, true, true, true, true, true, false, false, false, false] rfl rfl (any_of HT_.out (by kernel_rfl)) (fun _ _ _ h => h) (Or.inr ⟨by rfl, rfl⟩) ?_ ?_
          rotate_left
          · simp only [Act.put, z1, z2, z3, i64_w, i32_w]
            rfl
          refine pure_ (i := 23) (N := some 61) (v := undef) (a' := ?_) #[true, true, true, true, true, true, true, true, true, true, true, true, true, true, true, true, true, true, true, true, true, true, true, true, false, false, false] rfl rfl (any_of HT_.out (by kernel_rfl)) (fun _ _ _ h => h) (Or.inr ⟨by rfl, rfl⟩) ?_ ?_
          rotate_left
          · simp only [Act.put, z1, z2, z3, i64_w, i32_w]
            rfl
          refine pure_ (i := 24) (N := some 62) (v := ?_) (a' := ?_) #[true, true, true, true, true, true, true, true, true, true, true, true, true, true, true, true, true, true, true, true, true, true, true, true, true, false, false] rfl rfl (any_of HT_.out (by kernel_rfl)) (fun _ _ _ h => h) (Or.inl ⟨by rfl, ?_⟩) ?_ ?_
          rotate_left
          · intro w'
            go_simp
            with_reducible rfl
          rotate_left
          · simp only [Act.put, z1, z2, z3, i64_w, i32_w]
            rfl
          refine pure_ (i := 25) (N := some 63) (v := ?_) (a' := ?_) #[true, true, true, true, true, true, true, true, true, true, true, true, true, true, true, true, true, true, true, true, true, true, true, true, true, true, false] rfl rfl (any_of HT_.out (by kernel_rfl)) (fun _ _ _ h => h) (Or.inl ⟨by rfl, ?_⟩) ?_ ?_
          rotate_left
          · intro w'
            go_simp
            with_reducible rfl
          rotate_left
          · simp only [Act.put, z1, z2, z3, i64_w, i32_w]
            rfl
          refine pure_ (i := 26) (N := some 8) (v := ?_) (a' := ?_) #[true, true, true, true, true, true, true, true, true, true, true, true, true, true, true, true, true, true, true, true, true, true, true, true, true, true, true] rfl rfl (any_of HT_.out (by kernel_rfl)) (fun _ _ _ h => h) (Or.inl ⟨by rfl, ?_⟩) ?_ ?_
          rotate_left
          · intro w'
            go_simp
            with_reducible rfl
          rotate_left
          · simp only [Act.put, z1, z2, z3, i64_w, i32_w]
            rfl
          refine done_ (done_of HT_.out (by kernel_rfl)) ?_
          have F2 := Fil.below (Fil.drew hF.out) hb
          have own2 := own_below (own_drew hown.out) hb
          replace L2 := Aside0.mk L2
          replace own2 := Aside0.mk own2
          replace R2 := Aside0.mk R2
          replace F2 := Aside0.mk F2
          go_wp2_with (first
            | (go_at_call 11
               with_reducible refine Calls.mono (hA.out _ F2.out) ?_
               rintro e w3 ⟨rfl, F3, U3⟩
               have L3 := U3.below L2.out (Nat.le_refl _) L2.out.size
               have own3 := own_upd own2.out U3 (Nat.lt_succ_self _)
               obtain ⟨v0, v1, v2, v3⟩ := cells4_upd U3 (Nat.lt_of_lt_of_le hbk L2.out.size) (Nat.ne_of_lt hbk) R2.out
               have N4 := blk_new w3 (.cells #[.int .i64 p0, .int .i64 p1, .int .i64 p2, .int .i64 p3] 29)
               have F4 := F3.alloc (.cells #[.int .i64 p0, .int .i64 p1, .int .i64 p2, .int .i64 p3] 29)
               have L4 := L3.alloc L3.size (.cells #[.int .i64 p0, .int .i64 p1, .int .i64 p2, .int .i64 p3] 29)
               have own4 := own_below own3 ((Below.refl _ _).alloc (Nat.le_refl _) (.cells #[.int .i64 p0, .int .i64 p1, .int .i64 p2, .int .i64 p3] 29))
               have hlt3 := F4.lt
               replace N4 := Aside0.mk N4
               replace F4 := Aside0.mk F4
               replace L4 := Aside0.mk L4
               replace own4 := Aside0.mk own4)
            | (at_builtin
               refine wpList_append_own _ rfl _ _ 22 rfl (w.heap.size + 1) 29 info29 (.agg #[.int .i64 0, .int .i64 0, .int .i64 0, .int .i64 0]) 4 32 Try.underlying22 (by kernel_rfl) (by kernel_rfl) (by kernel_rfl) (by kernel_rfl) rfl (by decide) _ _ _ rfl own4.out ⟨w3.heap.size, 0, none⟩ 1 1 (enc4 ⟨p0, p1, p2, p3⟩) rfl rfl (enc_cells N4.out) (enc_one _) (by unfold maxLen; omega) (by omega) hlt3 ?_
               intro v5 w5 hown5 hgr5 hnil5
               have own5 : w5.ownsRow (w.heap.size + 1) 29 4 v5 kept2.length (flat kept2) := by rw [hk2.out, flat_snoc, List.length_append]; exact hown5
               have F5 := F4.out.grown hgr5 (fun q hq => own_base own4.out q hq)
               have L5 := L4.out.grown hgr5 L4.out.size (fun q hq => Nat.le_of_succ_le (own_base own4.out q hq))
               obtain ⟨A05, c05, A15, c15, hvk5, hsl5, hC5, hc5⟩ := kept_slice own5 (by omega)
               subst hvk5
               replace hC5 := Aside0.mk hC5)
            | (go_at_call 12
               with_reducible refine Calls.mono (samples_any _ _ _ _ _ F5) ?_
               rintro e w6 ⟨g, cp, rfl, hg, hcp, hS, b6⟩
               have F6 := Fil.below F5 b6
               have L6 := L5.trans (b6.mono L5.size)
               have own6 := own_below own5 b6
               obtain ⟨A0'', c0'', A1'', c1'', hvk6, hsl6, hC6, hc6⟩ := kept_slice own6 (by omega)
               have hq6 := (hsl5 w6).symm.trans (hsl6 w6)
               injection hq6 with hq6 _
               injection hq6 with e61 e62 e63
               subst e61 e63
               have hRd := hS.reads (by have := last8_len kept2; omega))
            | (go_at_call 13
               with_reducible refine Calls.mono (len_any _ _ _ _ _ F6) ?_
               rintro e w7 ⟨rfl, rfl⟩)
            | (go_at_call 14
               with_reducible refine Calls.mono (timesynclaw22_same.calls 200 _ _ (last8 kept2) _ _ (last8 kept2) true _ hRd hcp hC6 hc6 (same_tells _ (by have := last8_len kept2; omega))) ?_
               rintro e w8 ⟨rfl, ⟨nd, rfl⟩⟩
               have F8 := F6.drewN nd
               have L8 := pw_below_drewN L6 nd
               have own8 := own_below own6 (pw_below_drewN (Below.refl _ _) nd)))
          all_goals
            go_roundw
            case rel => exact ⟨k + 1, kept2, by omega, by push_cast; rfl, by omega, own8, F8, L8⟩
            case measure => simp [intOf]; omega
        | some y =>
          obtain ⟨j, hj, hy⟩ := last_get hlast
          have hft : fits kept ⟨p0, p1, p2, p3⟩ = decide (y.f3 < p3) := by unfold fits; rw [hlast]
          rw [hft] at hEr hLr
          obtain ⟨gk, c0k, hvk, hgb, hgk, hY⟩ := kept_last hown hj hy
          obtain ⟨A0, c0, A1, c1, hvk', hsl1, hC1, hc1⟩ := kept_slice hown (by omega)
          subst hvk
          have hkb : ((kept.length : Int) == 0) = false := beq_false_of_ne (by omega)
          have hkbN : (kept.length == 0) = false := beq_false_of_ne (by omega)
          have hj0 : (0 : Int) ≤ (j : Int) := by omega
          have hjl : (j : Int) < (kept.length : Int) := by omega
          have hjw : IntKind.i64.wrap ((kept.length : Int) - 1) = (j : Int) := by
            have e : (kept.length : Int) - 1 = (j : Int) := by omega
            rw [e]; exact wrapk j (by omega)
          have hjw2 : wrap64 ((kept.length : Int) - 1) = (j : Int) := Num.w64_in (by omega) (by omega) |>.trans (by omega)
          replace hown := Aside0.mk hown
          replace hF := Aside0.mk hF
          replace hC1 := Aside0.mk hC1
          replace hj := Aside0.mk hj
          by_cases hcmp : y.f3 < p3
          · have hcd : decide (y.f3 < p3) = true := decide_eq_true hcmp
            rw [hcd, if_pos rfl] at hEr hLr
            have hA := Aside0.mk (fun W h => add_to w.heap.size tol (last8 kept) (last8 kept2) (-9223372036854775808) ⟨p0, p1, p2, p3⟩ 0 hEr hLr W h)
            have hmn : mn (kept2.length : Int) 8 = ((last8 kept2).length : Int) := by rw [last8_len]; unfold mn; split <;> omega
            have hsub : IntKind.i64.wrap ((kept2.length : Int) - ((last8 kept2).length : Int)) = ((kept2.length - (last8 kept2).length : Nat) : Int) := by
              have h1 := last8_len kept2
              have e : (kept2.length : Int) - ((last8 kept2).length : Int) = ((kept2.length - (last8 kept2).length : Nat) : Int) := by omega
              rw [e]; exact wrapk _ (by omega)
            clear hsl1 hC1 hc1 hEr hLr hvk' hlast hft
            go_wp2
            refine start_ (n := 27) (S := (fun w' => w'.cell? (a.add (k * 4)) = some (.int .i64 p0) ∧ w'.cell? ⟨(a.add (k * 4)).block, (a.add (k * 4)).off + 1, none⟩ = some (.int .i64 p1) ∧ w'.cell? ⟨(a.add (k * 4)).block, (a.add (k * 4)).off + 2, none⟩ = some (.int .i64 p2) ∧ w'.cell? ⟨(a.add (k * 4)).block, (a.add (k * 4)).off + 3, none⟩ = some (.int .i64 p3) ∧ w'.cell? ⟨gk, j * 4 + 3, none⟩ = some (.int .i64 y.f3))) (ds := []) #[false, false, false, false, false, false, false, false, false, false, false, false, false, false, false, false, false, false, false, false, false, false, false, false, false, false, false] (by kernel_rfl) rfl rfl (⟨d0, d1, d2, d3, hY⟩) (fun hHeld => ?_); refine with_tabW fs8.tab fs8.bits (fun HT_ HW_ => ?_)
            refine pure_ (i := 0) (N := some 38) (v := ?_) (a' := ?_) #[true, false, false, false, false, false, false, false, false, false, false, false, false, false, false, false, false, false, false, false, false, false, false, false, false, false, false] rfl rfl (any_of HT_.out (by kernel_rfl)) (fun _ _ _ h => h) (Or.inl ⟨by rfl, ?_⟩) ?_ ?_
            rotate_left
            · intro w'
              go_simp
              with_reducible rfl
            rotate_left
            · simp only [Act.put, z1, z2, z3, i64_w, i32_w]
              rfl
            refine pure_ (i := 1) (N := some 39) (v := ?_) (a' := ?_) #[true, true, false, false, false, false, false, false, false, false, false, false, false, false, false, false, false, false, false, false, false, false, false, false, false, false, false] rfl rfl (any_of HT_.out (by kernel_rfl)) (fun _ _ _ h => h) (Or.inl ⟨by rfl, ?_⟩) ?_ ?_
            rotate_left
            · intro w'
              go_simp
              with_reducible rfl
            rotate_left
            · simp only [Act.put, z1, z2, z3, i64_w, i32_w]
              rfl
            refine pure_ (i := 2) (N := some 40) (v := ?_) (a' := ?_) #[true, true, true, false, false, false, false, false, false, false, false, false, false, false, false, false, false, false, false, false, false, false, false, false, false, false, false] rfl rfl (any_of HT_.out (by kernel_rfl)) (fun _ _ _ h => h) (Or.inl ⟨by rfl, ?_⟩) ?_ ?_
            rotate_left
            · intro w'
              go_simp
              with_reducible rfl
            rotate_left
            · simp only [Act.put, z1, z2, z3, i64_w, i32_w]
              rfl
            refine take_ (i := 3) (N := some 41) (v := ?_) (a' := ?_) #[true, true, true, true, false, false, false, false, false, false, false, false, false, false, false, false, false, false, false, false, false, false, false, false, false, false, false] rfl rfl (take_ofW HT_.out HW_.out (by kernel_rfl)) (fun _ _ _ h => h) (Or.inl ⟨by rfl, ?_⟩) hHeld ?_ ?_
            rotate_left
            · rintro w' ⟨s0, s1, s2, s3, s4⟩
              go_simp
              with_reducible rfl
            rotate_left
            · simp only [Act.put, z1, z2, z3, i64_w, i32_w]
              rfl
            refine one_ (i := 4) (N := some 42) #[true, true, true, true, true, false, false, false, false, false, false, false, false, false, false, false, false, false, false, false, false, false, false, false, false, false, false] rfl rfl (one_of HT_.out (by kernel_rfl)) (by decide) (fun K hK => ?_)
            refine goes_ Try.func10 (by kernel_rfl) rfl #[.agg #[.int .i64 p0, .int .i64 p1, .int .i64 p2, .int .i64 p3]] (by rfl) rfl rfl sl_ ?_
            with_reducible refine Calls.mono (hCk.out _) ?_
            rintro e w' ⟨rfl, hb⟩
            have L2 := below_on hL hb rfl rfl rfl rfl
            have R2 := cells4_below L2 hbk hdc0
            have hY2 : w'.cell? ⟨gk, j * 4 + 3, none⟩ = some (.int .i64 y.f3) := (World.cell?_of_block (hb.block gk hgk)).trans hY
            refine ⟨_, rfl, ?_⟩
            refine hK.out _ _ (⟨R2.1, R2.2.1, R2.2.2.1, R2.2.2.2, hY2⟩) (fun hHeld => ?_)
            clear hK K
            refine norm_ (a' := ?_) ?_ ?_
            rotate_left
            · show Act.put _ (some 42) _ = _
              simp only [Act.put, z1, z2, z3, i64_w, i32_w]
              rfl
            refine pure_ (i := 5) (N := some 43) (v := ?_) (a' := ?_) #[true, true, true, true, true, true, false, false, false, false, false, false, false, false, false, false, false, false, false, false, false, false, false, false, false, false, false] rfl rfl (any_of HT_.out (by kernel_rfl)) (fun _ _ _ h => h) (Or.inl ⟨by rfl, ?_⟩) ?_ ?_
            rotate_left
            · intro w'
              go_simp
              with_reducible rfl
            rotate_left
            · simp only [Act.put, z1, z2, z3, i64_w, i32_w]
              rfl
            refine pure_ (i := 6) (N := some 44) (v := ?_) (a' := ?_) #[true, true, true, true, true, true, true, false, false, false, false, false, false, false, false, false, false, false, false, false, false, false, false, false, false, false, false] rfl rfl (any_of HT_.out (by kernel_rfl)) (fun _ _ _ h => h) (Or.inl ⟨by rfl, ?_⟩) ?_ ?_
            rotate_left
            · intro w'
              go_simp
              with_reducible rfl
            rotate_left
            · simp only [Act.put, z1, z2, z3, i64_w, i32_w]
              rfl
            refine pure_ (i := 7) (N := some 45) (v := ?_) (a' := ?_) #[true, true, true, true, true, true, true, true, false, false, false, false, false, false, false, false, false, false, false, false, false, false, false, false, false, false, false] rfl rfl (any_of HT_.out (by kernel_rfl)) (fun _ _ _ h => h) (Or.inl ⟨by rfl, ?_⟩) ?_ ?_
            rotate_left
            · intro w'
              go_simp
              with_reducible rfl
            rotate_left
            · simp only [Act.put, z1, z2, z3, i64_w, i32_w]
              rfl
            refine pure_ (i := 8) (N := some 46) (v := ?_) (a' := ?_) #[true, true, true, true, true, true, true, true, true, false, false, false, false, false, false, false, false, false, false, false, false, false, false, false, false, false, false] rfl rfl (any_of HT_.out (by kernel_rfl)) (fun _ _ _ h => h) (Or.inl ⟨by rfl, ?_⟩) ?_ ?_
            rotate_left
            · intro w'
              go_simp
              with_reducible rfl
            rotate_left
            · simp only [Act.put, z1, z2, z3, i64_w, i32_w]
              rfl
            refine pure_ (i := 9) (N := some 47) (v := ?_) (a' := ?_) #[true, true, true, true, true, true, true, true, true, true, false, false, false, false, false, false, false, false, false, false, false, false, false, false, false, false, false] rfl rfl (any_of HT_.out (by kernel_rfl)) (fun _ _ _ h => h) (Or.inl ⟨by rfl, ?_⟩) ?_ ?_
            rotate_left
            · intro w'
              go_simp
              with_reducible rfl
            rotate_left
            · simp only [Act.put, z1, z2, z3, i64_w, i32_w]
              rfl
            refine pure_ (i := 10) (N := some 48) (v := ?_) (a' := ?_) #[true, true, true, true, true, true, true, true, true, true, true, false, false, false, false, false, false, false, false, false, false, false, false, false, false, false, false] rfl rfl (any_of HT_.out (by kernel_rfl)) (fun _ _ _ h => h) (Or.inl ⟨by rfl, ?_⟩) ?_ ?_
            rotate_left
            · intro w'
              go_simp
              with_reducible rfl
            rotate_left
            · simp only [Act.put, z1, z2, z3, i64_w, i32_w]
              rfl
            refine pure_ (i := 11) (N := some 49) (v := ?_) (a' := ?_) #[true, true, true, true, true, true, true, true, true, true, true, true, false, false, false, false, false, false, false, false, false, false, false, false, false, false, false] rfl rfl (any_of HT_.out (by kernel_rfl)) (fun _ _ _ h => h) (Or.inl ⟨by rfl, ?_⟩) ?_ ?_
            rotate_left
            · intro w'
              go_simp
              with_reducible rfl
            rotate_left
            · simp only [Act.put, z1, z2, z3, i64_w, i32_w]
              rfl
            refine pure_ (i := 12) (N := some 50) (v := ?_) (a' := ?_) #[true, true, true, true, true, true, true, true, true, true, true, true, true, false, false, false, false, false, false, false, false, false, false, false, false, false, false] rfl rfl (any_of HT_.out (by kernel_rfl)) (fun _ _ _ h => h) (Or.inl ⟨by rfl, ?_⟩) ?_ ?_
            rotate_left
            · intro w'
              go_simp
              with_reducible rfl
            rotate_left
            · simp only [Act.put, z1, z2, z3, i64_w, i32_w]
              rfl
            refine pure_ (i := 13) (N := some 51) (v := ?_) (a' := ?_) #[true, true, true, true, true, true, true, true, true, true, true, true, true, true, false, false, false, false, false, false, false, false, false, false, false, false, false] rfl rfl (any_of HT_.out (by kernel_rfl)) (fun _ _ _ h => h) (Or.inl ⟨by rfl, ?_⟩) ?_ ?_
            rotate_left
            · intro w'
              go_simp
              with_reducible rfl
            rotate_left
            · simp only [Act.put, z1, z2, z3, i64_w, i32_w]
              rfl
            refine pure_ (i := 14) (N := some 52) (v := ?_) (a' := ?_) #[true, true, true, true, true, true, true, true, true, true, true, true, true, true, true, false, false, false, false, false, false, false, false, false, false, false, false] rfl rfl (any_of HT_.out (by kernel_rfl)) (fun _ _ _ h => h) (Or.inl ⟨by rfl, ?_⟩) ?_ ?_
            rotate_left
            · intro w'
              go_simp
              with_reducible rfl
            rotate_left
            · simp only [Act.put, z1, z2, z3, i64_w, i32_w]
              rfl
            refine take_ (i := 15) (N := some 53) (v := ?_) (a' := ?_) #[true, true, true, true, true, true, true, true, true, true, true, true, true, true, true, true, false, false, false, false, false, false, false, false, false, false, false] rfl rfl (take_ofW HT_.out HW_.out (by kernel_rfl)) (fun _ _ _ h => h) (Or.inl ⟨by rfl, ?_⟩) hHeld ?_ ?_
            rotate_left
            · rintro w' ⟨s0, s1, s2, s3, s4⟩
              go_simp
              with_reducible rfl
            rotate_left
            · simp only [Act.put, z1, z2, z3, i64_w, i32_w]
              rfl
            refine pure_ (i := 16) (N := some 54) (v := ?_) (a' := ?_) #[true, true, true, true, true, true, true, true, true, true, true, true, true, true, true, true, true, false, false, false, false, false, false, false, false, false, false] rfl rfl (any_of HT_.out (by kernel_rfl)) (fun _ _ _ h => h) (Or.inl ⟨by rfl, ?_⟩) ?_ ?_
            rotate_left
            · intro w'
              go_simp
              with_reducible rfl
            rotate_left
            · simp only [Act.put, z1, z2, z3, i64_w, i32_w]
              rfl
            refine pure_ (i := 17) (N := some 55) (v := ?_) (a' := ?_) #[true, true, true, true, true, true, true, true, true, true, true, true, true, true, true, true, true, true, false, false, false, false, false, false, false, false, false] rfl rfl (any_of HT_.out (by kernel_rfl)) (fun _ _ _ h => h) (Or.inl ⟨by rfl, ?_⟩) ?_ ?_
            rotate_left
            · intro w'
              go_simp
              with_reducible rfl
            rotate_left
            · simp only [Act.put, z1, z2, z3, i64_w, i32_w]
              rfl
            refine pure_ (i := 18) (N := some 56) (v := ?_) (a' := ?_) #[true, true, true, true, true, true, true, true, true, true, true, true, true, true, true, true, true, true, true, false, false, false, false, false, false, false, false] rfl rfl (any_of HT_.out (by kernel_rfl)) (fun _ _ _ h => h) (Or.inl ⟨by rfl, ?_⟩) ?_ ?_
            rotate_left
            · intro w'
              go_simp
              with_reducible rfl
            rotate_left
            · simp only [Act.put, z1, z2, z3, i64_w, i32_w]
              rfl
            refine pure_ (i := 19) (N := some 57) (v := ?_) (a' := ?_) #[true, true, true, true, true, true, true, true, true, true, true, true, true, true, true, true, true, true, true, true, false, false, false, false, false, false, false] rfl rfl (any_of HT_.out (by kernel_rfl)) (fun _ _ _ h => h) (Or.inl ⟨by rfl, ?_⟩) ?_ ?_
            rotate_left
            · intro w'
              go_simp
              with_reducible rfl
            rotate_left
            · simp only [Act.put, z1, z2, z3, i64_w, i32_w]
              rfl
            refine pure_ (i := 20) (N := some 58) (v := ?_) (a' := ?_) #[true, true, true, true, true, true, true, true, true, true, true, true, true, true, true, true, true, true, true, true, true, false, false, false, false, false, false] rfl rfl (any_of HT_.out (by kernel_rfl)) (fun _ _ _ h => h) (Or.inl ⟨by rfl, ?_⟩) ?_ ?_
            rotate_left
            · intro w'
              go_simp
              with_reducible rfl
            rotate_left
            · simp only [Act.put, z1, z2, z3, i64_w, i32_w]
              rfl
            refine pure_ (i := 21) (N := some 59) (v := ?_) (a' := ?_) #[true, true, true, true, true, true, true, true, true, true, true, true, true, true, true, true, true, true, true, true, true, true, false, false, false, false, false] rfl rfl (any_of HT_.out (by kernel_rfl)) (fun _ _ _ h => h) (Or.inl ⟨by rfl, ?_⟩) ?_ ?_
            rotate_left
            · intro w'
              go_simp
              with_reducible rfl
            rotate_left
            · simp only [Act.put, z1, z2, z3, i64_w, i32_w]
              rfl
            refine take_ (i := 22) (N := some 60) (v := ?_) (a' := ?_) #[true, true, true, true, true, true, true, true, true, true, true, true, true, true, true, true, true, true, true, true, true, true, true, false, false, false, false] rfl rfl (take_ofW HT_.out HW_.out (by kernel_rfl)) (fun _ _ _ h => h) (Or.inl ⟨by rfl, ?_⟩) hHeld ?_ ?_
            rotate_left
            · rintro w' ⟨s0, s1, s2, s3, s4⟩
              go_simp
              with_reducible rfl
            rotate_left
            · simp only [Act.put, z1, z2, z3, i64_w, i32_w]
              rfl
            refine pure_ (i := 23) (N := some 61) (v := ?_) (a' := ?_) #[true, true, true, true, true, true, true, true, true, true, true, true, true, true, true, true, true, true, true, true, true, true, true, true, false, false, false] rfl rfl (any_of HT_.out (by kernel_rfl)) (fun _ _ _ h => h) (Or.inl ⟨by rfl, ?_⟩) ?_ ?_
            rotate_left
            · intro w'
              go_simp
              with_reducible rfl
            rotate_left
            · simp only [Act.put, z1, z2, z3, i64_w, i32_w]
              rfl
            refine pure_ (i := 24) (N := some 62) (v := ?_) (a' := ?_) #[true, true, true, true, true, true, true, true, true, true, true, true, true, true, true, true, true, true, true, true, true, true, true, true, true, false, false] rfl rfl (any_of HT_.out (by kernel_rfl)) (fun _ _ _ h => h) (Or.inl ⟨by rfl, ?_⟩) ?_ ?_
            rotate_left
            · intro w'
              go_simp
              with_reducible rfl
            rotate_left
            · simp only [Act.put, z1, z2, z3, i64_w, i32_w]
              rfl
            refine pure_ (i := 25) (N := some 63) (v := ?_) (a' := ?_) #[true, true, true, true, true, true, true, true, true, true, true, true, true, true, true, true, true, true, true, true, true, true, true, true, true, true, false] rfl rfl (any_of HT_.out (by kernel_rfl)) (fun _ _ _ h => h) (Or.inl ⟨by rfl, ?_⟩) ?_ ?_
            rotate_left
            · intro w'
              go_simp
              with_reducible rfl
            rotate_left
            · simp only [Act.put, z1, z2, z3, i64_w, i32_w]
              rfl
            refine pure_ (i := 26) (N := some 8) (v := ?_) (a' := ?_) #[true, true, true, true, true, true, true, true, true, true, true, true, true, true, true, true, true, true, true, true, true, true, true, true, true, true, true] rfl rfl (any_of HT_.out (by kernel_rfl)) (fun _ _ _ h => h) (Or.inl ⟨by rfl, ?_⟩) ?_ ?_
            rotate_left
            · intro w'
              go_simp
              with_reducible rfl
            rotate_left
            · simp only [Act.put, z1, z2, z3, i64_w, i32_w]
              rfl
            refine done_ (done_of HT_.out (by kernel_rfl)) ?_
            have F2 := Fil.below (Fil.drew hF.out) hb
            have own2 := own_below (own_drew hown.out) hb
            replace L2 := Aside0.mk L2
            replace own2 := Aside0.mk own2
            replace R2 := Aside0.mk R2
            replace F2 := Aside0.mk F2
            go_wp2_with (first
              | (go_at_call 11
                 with_reducible refine Calls.mono (hA.out _ F2.out) ?_
                 rintro e w3 ⟨rfl, F3, U3⟩
                 have L3 := U3.below L2.out (Nat.le_refl _) L2.out.size
                 have own3 := own_upd own2.out U3 (Nat.lt_succ_self _)
                 obtain ⟨v0, v1, v2, v3⟩ := cells4_upd U3 (Nat.lt_of_lt_of_le hbk L2.out.size) (Nat.ne_of_lt hbk) R2.out
                 have N4 := blk_new w3 (.cells #[.int .i64 p0, .int .i64 p1, .int .i64 p2, .int .i64 p3] 29)
                 have F4 := F3.alloc (.cells #[.int .i64 p0, .int .i64 p1, .int .i64 p2, .int .i64 p3] 29)
                 have L4 := L3.alloc L3.size (.cells #[.int .i64 p0, .int .i64 p1, .int .i64 p2, .int .i64 p3] 29)
                 have own4 := own_below own3 ((Below.refl _ _).alloc (Nat.le_refl _) (.cells #[.int .i64 p0, .int .i64 p1, .int .i64 p2, .int .i64 p3] 29))
                 have hlt3 := F4.lt
                 replace N4 := Aside0.mk N4
                 replace F4 := Aside0.mk F4
                 replace L4 := Aside0.mk L4
                 replace own4 := Aside0.mk own4)
              | (at_builtin
                 refine wpList_append_own _ rfl _ _ 22 rfl (w.heap.size + 1) 29 info29 (.agg #[.int .i64 0, .int .i64 0, .int .i64 0, .int .i64 0]) 4 32 Try.underlying22 (by kernel_rfl) (by kernel_rfl) (by kernel_rfl) (by kernel_rfl) rfl (by decide) _ _ _ rfl own4.out ⟨w3.heap.size, 0, none⟩ 1 1 (enc4 ⟨p0, p1, p2, p3⟩) rfl rfl (enc_cells N4.out) (enc_one _) (by unfold maxLen; omega) (by omega) hlt3 ?_
                 intro v5 w5 hown5 hgr5 hnil5
                 have own5 : w5.ownsRow (w.heap.size + 1) 29 4 v5 kept2.length (flat kept2) := by rw [hk2.out, flat_snoc, List.length_append]; exact hown5
                 have F5 := F4.out.grown hgr5 (fun q hq => own_base own4.out q hq)
                 have L5 := L4.out.grown hgr5 L4.out.size (fun q hq => Nat.le_of_succ_le (own_base own4.out q hq))
                 obtain ⟨A05, c05, A15, c15, hvk5, hsl5, hC5, hc5⟩ := kept_slice own5 (by omega)
                 subst hvk5
                 replace hC5 := Aside0.mk hC5)
              | (go_at_call 12
                 with_reducible refine Calls.mono (samples_any _ _ _ _ _ F5) ?_
                 rintro e w6 ⟨g, cp, rfl, hg, hcp, hS, b6⟩
                 have F6 := Fil.below F5 b6
                 have L6 := L5.trans (b6.mono L5.size)
                 have own6 := own_below own5 b6
                 obtain ⟨A0'', c0'', A1'', c1'', hvk6, hsl6, hC6, hc6⟩ := kept_slice own6 (by omega)
                 have hq6 := (hsl5 w6).symm.trans (hsl6 w6)
                 injection hq6 with hq6 _
                 injection hq6 with e61 e62 e63
                 subst e61 e63
                 have hRd := hS.reads (by have := last8_len kept2; omega))
              | (go_at_call 13
                 with_reducible refine Calls.mono (len_any _ _ _ _ _ F6) ?_
                 rintro e w7 ⟨rfl, rfl⟩)
              | (go_at_call 14
                 with_reducible refine Calls.mono (timesynclaw22_same.calls 200 _ _ (last8 kept2) _ _ (last8 kept2) true _ hRd hcp hC6 hc6 (same_tells _ (by have := last8_len kept2; omega))) ?_
                 rintro e w8 ⟨rfl, ⟨nd, rfl⟩⟩
                 have F8 := F6.drewN nd
                 have L8 := pw_below_drewN L6 nd
                 have own8 := own_below own6 (pw_below_drewN (Below.refl _ _) nd)))
            all_goals
              go_roundw
              case rel => exact ⟨k + 1, kept2, by omega, by push_cast; rfl, by omega, own8, F8, L8⟩
              case measure => simp [intOf]; omega
          · have hcd : decide (y.f3 < p3) = false := decide_eq_false hcmp
            rw [hcd, if_neg (by decide)] at hEr hLr
            have hA := Aside0.mk (fun W h => add_to w.heap.size tol (last8 kept) (last8 kept) (-9223372036854775808) ⟨p0, p1, p2, p3⟩ 12 hEr hLr W h)
            have hmn : mn (kept.length : Int) 8 = ((last8 kept).length : Int) := by rw [last8_len]; unfold mn; split <;> omega
            have hsub : IntKind.i64.wrap ((kept.length : Int) - ((last8 kept).length : Int)) = ((kept.length - (last8 kept).length : Nat) : Int) := by
              have h1 := last8_len kept
              have e : (kept.length : Int) - ((last8 kept).length : Int) = ((kept.length - (last8 kept).length : Nat) : Int) := by omega
              rw [e]; exact wrapk _ (by omega)
            clear hC1 hc1 hEr hLr hvk' hlast hft
            go_wp2
            refine start_ (n := 27) (S := (fun w' => w'.cell? (a.add (k * 4)) = some (.int .i64 p0) ∧ w'.cell? ⟨(a.add (k * 4)).block, (a.add (k * 4)).off + 1, none⟩ = some (.int .i64 p1) ∧ w'.cell? ⟨(a.add (k * 4)).block, (a.add (k * 4)).off + 2, none⟩ = some (.int .i64 p2) ∧ w'.cell? ⟨(a.add (k * 4)).block, (a.add (k * 4)).off + 3, none⟩ = some (.int .i64 p3) ∧ w'.cell? ⟨gk, j * 4 + 3, none⟩ = some (.int .i64 y.f3))) (ds := []) #[false, false, false, false, false, false, false, false, false, false, false, false, false, false, false, false, false, false, false, false, false, false, false, false, false, false, false] (by kernel_rfl) rfl rfl (⟨d0, d1, d2, d3, hY⟩) (fun hHeld => ?_); refine with_tabW fs8.tab fs8.bits (fun HT_ HW_ => ?_)
            refine pure_ (i := 0) (N := some 38) (v := ?_) (a' := ?_) #[true, false, false, false, false, false, false, false, false, false, false, false, false, false, false, false, false, false, false, false, false, false, false, false, false, false, false] rfl rfl (any_of HT_.out (by kernel_rfl)) (fun _ _ _ h => h) (Or.inl ⟨by rfl, ?_⟩) ?_ ?_
            rotate_left
            · intro w'
              go_simp
              with_reducible rfl
            rotate_left
            · simp only [Act.put, z1, z2, z3, i64_w, i32_w]
              rfl
            refine pure_ (i := 1) (N := some 39) (v := ?_) (a' := ?_) #[true, true, false, false, false, false, false, false, false, false, false, false, false, false, false, false, false, false, false, false, false, false, false, false, false, false, false] rfl rfl (any_of HT_.out (by kernel_rfl)) (fun _ _ _ h => h) (Or.inl ⟨by rfl, ?_⟩) ?_ ?_
            rotate_left
            · intro w'
              go_simp
              with_reducible rfl
            rotate_left
            · simp only [Act.put, z1, z2, z3, i64_w, i32_w]
              rfl
            refine pure_ (i := 2) (N := some 40) (v := ?_) (a' := ?_) #[true, true, true, false, false, false, false, false, false, false, false, false, false, false, false, false, false, false, false, false, false, false, false, false, false, false, false] rfl rfl (any_of HT_.out (by kernel_rfl)) (fun _ _ _ h => h) (Or.inl ⟨by rfl, ?_⟩) ?_ ?_
            rotate_left
            · intro w'
              go_simp
              with_reducible rfl
            rotate_left
            · simp only [Act.put, z1, z2, z3, i64_w, i32_w]
              rfl
            refine take_ (i := 3) (N := some 41) (v := ?_) (a' := ?_) #[true, true, true, true, false, false, false, false, false, false, false, false, false, false, false, false, false, false, false, false, false, false, false, false, false, false, false] rfl rfl (take_ofW HT_.out HW_.out (by kernel_rfl)) (fun _ _ _ h => h) (Or.inl ⟨by rfl, ?_⟩) hHeld ?_ ?_
            rotate_left
            · rintro w' ⟨s0, s1, s2, s3, s4⟩
              go_simp
              with_reducible rfl
            rotate_left
            · simp only [Act.put, z1, z2, z3, i64_w, i32_w]
              rfl
            refine one_ (i := 4) (N := some 42) #[true, true, true, true, true, false, false, false, false, false, false, false, false, false, false, false, false, false, false, false, false, false, false, false, false, false, false] rfl rfl (one_of HT_.out (by kernel_rfl)) (by decide) (fun K hK => ?_)
            refine goes_ Try.func10 (by kernel_rfl) rfl #[.agg #[.int .i64 p0, .int .i64 p1, .int .i64 p2, .int .i64 p3]] (by rfl) rfl rfl sl_ ?_
            with_reducible refine Calls.mono (hCk.out _) ?_
            rintro e w' ⟨rfl, hb⟩
            have L2 := below_on hL hb rfl rfl rfl rfl
            have R2 := cells4_below L2 hbk hdc0
            have hY2 : w'.cell? ⟨gk, j * 4 + 3, none⟩ = some (.int .i64 y.f3) := (World.cell?_of_block (hb.block gk hgk)).trans hY
            refine ⟨_, rfl, ?_⟩
            refine hK.out _ _ (⟨R2.1, R2.2.1, R2.2.2.1, R2.2.2.2, hY2⟩) (fun hHeld => ?_)
            clear hK K
            refine norm_ (a' := ?_) ?_ ?_
            rotate_left
            · show Act.put _ (some 42) _ = _
              simp only [Act.put, z1, z2, z3, i64_w, i32_w]
              rfl
            refine pure_ (i := 5) (N := some 43) (v := ?_) (a' := ?_) #[true, true, true, true, true, true, false, false, false, false, false, false, false, false, false, false, false, false, false, false, false, false, false, false, false, false, false] rfl rfl (any_of HT_.out (by kernel_rfl)) (fun _ _ _ h => h) (Or.inl ⟨by rfl, ?_⟩) ?_ ?_
            rotate_left
            · intro w'
              go_simp
              with_reducible rfl
            rotate_left
            · simp only [Act.put, z1, z2, z3, i64_w, i32_w]
              rfl
            refine pure_ (i := 6) (N := some 44) (v := ?_) (a' := ?_) #[true, true, true, true, true, true, true, false, false, false, false, false, false, false, false, false, false, false, false, false, false, false, false, false, false, false, false] rfl rfl (any_of HT_.out (by kernel_rfl)) (fun _ _ _ h => h) (Or.inl ⟨by rfl, ?_⟩) ?_ ?_
            rotate_left
            · intro w'
              go_simp
              with_reducible rfl
            rotate_left
            · simp only [Act.put, z1, z2, z3, i64_w, i32_w]
              rfl
            refine pure_ (i := 7) (N := some 45) (v := ?_) (a' := ?_) #[true, true, true, true, true, true, true, true, false, false, false, false, false, false, false, false, false, false, false, false, false, false, false, false, false, false, false] rfl rfl (any_of HT_.out (by kernel_rfl)) (fun _ _ _ h => h) (Or.inl ⟨by rfl, ?_⟩) ?_ ?_
            rotate_left
            · intro w'
              go_simp
              with_reducible rfl
            rotate_left
            · simp only [Act.put, z1, z2, z3, i64_w, i32_w]
              rfl
            refine pure_ (i := 8) (N := some 46) (v := ?_) (a' := ?_) #[true, true, true, true, true, true, true, true, true, false, false, false, false, false, false, false, false, false, false, false, false, false, false, false, false, false, false] rfl rfl (any_of HT_.out (by kernel_rfl)) (fun _ _ _ h => h) (Or.inl ⟨by rfl, ?_⟩) ?_ ?_
            rotate_left
            · intro w'
              go_simp
              with_reducible rfl
            rotate_left
            · simp only [Act.put, z1, z2, z3, i64_w, i32_w]
              rfl
            refine pure_ (i := 9) (N := some 47) (v := ?_) (a' := ?_) #[true, true, true, true, true, true, true, true, true, true, false, false, false, false, false, false, false, false, false, false, false, false, false, false, false, false, false] rfl rfl (any_of HT_.out (by kernel_rfl)) (fun _ _ _ h => h) (Or.inl ⟨by rfl, ?_⟩) ?_ ?_
            rotate_left
            · intro w'
              go_simp
              with_reducible rfl
            rotate_left
            · simp only [Act.put, z1, z2, z3, i64_w, i32_w]
              rfl
            refine pure_ (i := 10) (N := some 48) (v := ?_) (a' := ?_) #[true, true, true, true, true, true, true, true, true, true, true, false, false, false, false, false, false, false, false, false, false, false, false, false, false, false, false] rfl rfl (any_of HT_.out (by kernel_rfl)) (fun _ _ _ h => h) (Or.inl ⟨by rfl, ?_⟩) ?_ ?_
            rotate_left
            · intro w'
              go_simp
              with_reducible rfl
            rotate_left
            · simp only [Act.put, z1, z2, z3, i64_w, i32_w]
              rfl
            refine pure_ (i := 11) (N := some 49) (v := ?_) (a' := ?_) #[true, true, true, true, true, true, true, true, true, true, true, true, false, false, false, false, false, false, false, false, false, false, false, false, false, false, false] rfl rfl (any_of HT_.out (by kernel_rfl)) (fun _ _ _ h => h) (Or.inl ⟨by rfl, ?_⟩) ?_ ?_
            rotate_left
            · intro w'
              go_simp
              with_reducible rfl
            rotate_left
            · simp only [Act.put, z1, z2, z3, i64_w, i32_w]
              rfl
            refine pure_ (i := 12) (N := some 50) (v := ?_) (a' := ?_) #[true, true, true, true, true, true, true, true, true, true, true, true, true, false, false, false, false, false, false, false, false, false, false, false, false, false, false] rfl rfl (any_of HT_.out (by kernel_rfl)) (fun _ _ _ h => h) (Or.inl ⟨by rfl, ?_⟩) ?_ ?_
            rotate_left
            · intro w'
              go_simp
              with_reducible rfl
            rotate_left
            · simp only [Act.put, z1, z2, z3, i64_w, i32_w]
              rfl
            refine pure_ (i := 13) (N := some 51) (v := ?_) (a' := ?_) #[true, true, true, true, true, true, true, true, true, true, true, true, true, true, false, false, false, false, false, false, false, false, false, false, false, false, false] rfl rfl (any_of HT_.out (by kernel_rfl)) (fun _ _ _ h => h) (Or.inl ⟨by rfl, ?_⟩) ?_ ?_
            rotate_left
            · intro w'
              go_simp
              with_reducible rfl
            rotate_left
            · simp only [Act.put, z1, z2, z3, i64_w, i32_w]
              rfl
            refine pure_ (i := 14) (N := some 52) (v := ?_) (a' := ?_) #[true, true, true, true, true, true, true, true, true, true, true, true, true, true, true, false, false, false, false, false, false, false, false, false, false, false, false] rfl rfl (any_of HT_.out (by kernel_rfl)) (fun _ _ _ h => h) (Or.inl ⟨by rfl, ?_⟩) ?_ ?_
            rotate_left
            · intro w'
              go_simp
              with_reducible rfl
            rotate_left
            · simp only [Act.put, z1, z2, z3, i64_w, i32_w]
              rfl
            refine take_ (i := 15) (N := some 53) (v := ?_) (a' := ?_) #[true, true, true, true, true, true, true, true, true, true, true, true, true, true, true, true, false, false, false, false, false, false, false, false, false, false, false] rfl rfl (take_ofW HT_.out HW_.out (by kernel_rfl)) (fun _ _ _ h => h) (Or.inl ⟨by rfl, ?_⟩) hHeld ?_ ?_
            rotate_left
            · rintro w' ⟨s0, s1, s2, s3, s4⟩
              go_simp
              with_reducible rfl
            rotate_left
            · simp only [Act.put, z1, z2, z3, i64_w, i32_w]
              rfl
            refine pure_ (i := 16) (N := some 54) (v := ?_) (a' := ?_) #[true, true, true, true, true, true, true, true, true, true, true, true, true, true, true, true, true, false, false, false, false, false, false, false, false, false, false] rfl rfl (any_of HT_.out (by kernel_rfl)) (fun _ _ _ h => h) (Or.inl ⟨by rfl, ?_⟩) ?_ ?_
            rotate_left
            · intro w'
              go_simp
              with_reducible rfl
            rotate_left
            · simp only [Act.put, z1, z2, z3, i64_w, i32_w]
              rfl
            refine pure_ (i := 17) (N := some 55) (v := ?_) (a' := ?_) #[true, true, true, true, true, true, true, true, true, true, true, true, true, true, true, true, true, true, false, false, false, false, false, false, false, false, false] rfl rfl (any_of HT_.out (by kernel_rfl)) (fun _ _ _ h => h) (Or.inl ⟨by rfl, ?_⟩) ?_ ?_
            rotate_left
            · intro w'
              go_simp
              with_reducible rfl
            rotate_left
            · simp only [Act.put, z1, z2, z3, i64_w, i32_w]
              rfl
            refine pure_ (i := 18) (N := some 56) (v := ?_) (a' := ?_) #[true, true, true, true, true, true, true, true, true, true, true, true, true, true, true, true, true, true, true, false, false, false, false, false, false, false, false] rfl rfl (any_of HT_.out (by kernel_rfl)) (fun _ _ _ h => h) (Or.inl ⟨by rfl, ?_⟩) ?_ ?_
            rotate_left
            · intro w'
              go_simp
              with_reducible rfl
            rotate_left
            · simp only [Act.put, z1, z2, z3, i64_w, i32_w]
              rfl
            refine pure_ (i := 19) (N := some 57) (v := ?_) (a' := ?_) #[true, true, true, true, true, true, true, true, true, true, true, true, true, true, true, true, true, true, true, true, false, false, false, false, false, false, false] rfl rfl (any_of HT_.out (by kernel_rfl)) (fun _ _ _ h => h) (Or.inl ⟨by rfl, ?_⟩) ?_ ?_
            rotate_left
            · intro w'
              go_simp
              with_reducible rfl
            rotate_left
            · simp only [Act.put, z1, z2, z3, i64_w, i32_w]
              rfl
            refine pure_ (i := 20) (N := some 58) (v := ?_) (a' := ?_) #[true, true, true, true, true, true, true, true, true, true, true, true, true, true, true, true, true, true, true, true, true, false, false, false, false, false, false] rfl rfl (any_of HT_.out (by kernel_rfl)) (fun _ _ _ h => h) (Or.inl ⟨by rfl, ?_⟩) ?_ ?_
            rotate_left
            · intro w'
              go_simp
              with_reducible rfl
            rotate_left
            · simp only [Act.put, z1, z2, z3, i64_w, i32_w]
              rfl
            refine pure_ (i := 21) (N := some 59) (v := ?_) (a' := ?_) #[true, true, true, true, true, true, true, true, true, true, true, true, true, true, true, true, true, true, true, true, true, true, false, false, false, false, false] rfl rfl (any_of HT_.out (by kernel_rfl)) (fun _ _ _ h => h) (Or.inl ⟨by rfl, ?_⟩) ?_ ?_
            rotate_left
            · intro w'
              go_simp
              with_reducible rfl
            rotate_left
            · simp only [Act.put, z1, z2, z3, i64_w, i32_w]
              rfl
            refine take_ (i := 22) (N := some 60) (v := ?_) (a' := ?_) #[true, true, true, true, true, true, true, true, true, true, true, true, true, true, true, true, true, true, true, true, true, true, true, false, false, false, false] rfl rfl (take_ofW HT_.out HW_.out (by kernel_rfl)) (fun _ _ _ h => h) (Or.inl ⟨by rfl, ?_⟩) hHeld ?_ ?_
            rotate_left
            · rintro w' ⟨s0, s1, s2, s3, s4⟩
              go_simp
              with_reducible rfl
            rotate_left
            · simp only [Act.put, z1, z2, z3, i64_w, i32_w]
              rfl
            refine pure_ (i := 23) (N := some 61) (v := ?_) (a' := ?_) #[true, true, true, true, true, true, true, true, true, true, true, true, true, true, true, true, true, true, true, true, true, true, true, true, false, false, false] rfl rfl (any_of HT_.out (by kernel_rfl)) (fun _ _ _ h => h) (Or.inl ⟨by rfl, ?_⟩) ?_ ?_
            rotate_left
            · intro w'
              go_simp
              with_reducible rfl
            rotate_left
            · simp only [Act.put, z1, z2, z3, i64_w, i32_w]
              rfl
            refine pure_ (i := 24) (N := some 62) (v := ?_) (a' := ?_) #[true, true, true, true, true, true, true, true, true, true, true, true, true, true, true, true, true, true, true, true, true, true, true, true, true, false, false] rfl rfl (any_of HT_.out (by kernel_rfl)) (fun _ _ _ h => h) (Or.inl ⟨by rfl, ?_⟩) ?_ ?_
            rotate_left
            · intro w'
              go_simp
              with_reducible rfl
            rotate_left
            · simp only [Act.put, z1, z2, z3, i64_w, i32_w]
              rfl
            refine pure_ (i := 25) (N := some 63) (v := ?_) (a' := ?_) #[true, true, true, true, true, true, true, true, true, true, true, true, true, true, true, true, true, true, true, true, true, true, true, true, true, true, false] rfl rfl (any_of HT_.out (by kernel_rfl)) (fun _ _ _ h => h) (Or.inl ⟨by rfl, ?_⟩) ?_ ?_
            rotate_left
            · intro w'
              go_simp
              with_reducible rfl
            rotate_left
            · simp only [Act.put, z1, z2, z3, i64_w, i32_w]
              rfl
            refine pure_ (i := 26) (N := some 8) (v := ?_) (a' := ?_) #[true, true, true, true, true, true, true, true, true, true, true, true, true, true, true, true, true, true, true, true, true, true, true, true, true, true, true] rfl rfl (any_of HT_.out (by kernel_rfl)) (fun _ _ _ h => h) (Or.inl ⟨by rfl, ?_⟩) ?_ ?_
            rotate_left
            · intro w'
              go_simp
              with_reducible rfl
            rotate_left
            · simp only [Act.put, z1, z2, z3, i64_w, i32_w]
              rfl
            refine done_ (done_of HT_.out (by kernel_rfl)) ?_
            have F2 := Fil.below (Fil.drew hF.out) hb
            have own2 := own_below (own_drew hown.out) hb
            replace L2 := Aside0.mk L2
            replace own2 := Aside0.mk own2
            replace F2 := Aside0.mk F2
            go_wp2_with (first
              | (go_at_call 11
                 with_reducible refine Calls.mono (hA.out _ F2.out) ?_
                 rintro e w3 ⟨rfl, F3, U3⟩
                 have L3 := U3.below L2.out (Nat.le_refl _) L2.out.size
                 have own3 := own_upd own2.out U3 (Nat.lt_succ_self _)
                 have h3 := L3.size)
              | (go_at_call 12
                 with_reducible refine Calls.mono (samples_any _ _ _ _ _ F3) ?_
                 rintro e w6 ⟨g, cp, rfl, hg, hcp, hS, b6⟩
                 have F6 := Fil.below F3 b6
                 have L6 := L3.trans (b6.mono L3.size)
                 have own6 := own_below own3 b6
                 obtain ⟨A0'', c0'', A1'', c1'', hvk6, hsl6, hC6, hc6⟩ := kept_slice own6 (by omega)
                 have hq6 := (hsl1 w6).symm.trans (hsl6 w6)
                 injection hq6 with hq6 _
                 injection hq6 with e61 e62 e63
                 subst e61 e63
                 have hRd := hS.reads (by have := last8_len kept; omega))
              | (go_at_call 13
                 with_reducible refine Calls.mono (len_any _ _ _ _ _ F6) ?_
                 rintro e w7 ⟨rfl, rfl⟩)
              | (go_at_call 14
                 with_reducible refine Calls.mono (timesynclaw22_same.calls 200 _ _ (last8 kept) _ _ (last8 kept) true _ hRd hcp hC6 hc6 (same_tells _ (by have := last8_len kept; omega))) ?_
                 rintro e w8 ⟨rfl, ⟨nd, rfl⟩⟩
                 have F8 := F6.drewN nd
                 have L8 := pw_below_drewN L6 nd
                 have own8 := own_below own6 (pw_below_drewN (Below.refl _ _) nd)))
            all_goals
              go_roundw
              case rel => exact ⟨k + 1, kept, by omega, by push_cast; rfl, by omega, own8, F8, L8⟩
              case measure => simp [intOf]; omega
      · have hA := Aside0.mk (fun W h => add_to w.heap.size tol (last8 kept) (last8 kept) (-9223372036854775808) ⟨p0, p1, p2, p3⟩ 3 (by unfold addE; rw [if_neg hok]) (by unfold addL; rw [if_neg hok]) W h)
        simp only [if_neg hok] at hCk
        replace hCk := Aside0.mk hCk
        obtain ⟨A0, c0, A1, c1, hvk, hsl1, hC1, hc1⟩ := kept_slice hown (by omega)
        have hmn : mn (kept.length : Int) 8 = ((last8 kept).length : Int) := by rw [last8_len]; unfold mn; split <;> omega
        have hsub : IntKind.i64.wrap ((kept.length : Int) - ((last8 kept).length : Int)) = ((kept.length - (last8 kept).length : Nat) : Int) := by
          have h1 := last8_len kept
          have e : (kept.length : Int) - ((last8 kept).length : Int) = ((kept.length - (last8 kept).length : Nat) : Int) := by omega
          rw [e]; exact wrapk _ (by omega)
        subst hvk
        replace hown := Aside0.mk hown
        replace hC1 := Aside0.mk hC1
        replace hF := Aside0.mk hF
        go_wp2
        refine start_ (n := 27) (S := (fun w' => w'.cell? (a.add (k * 4)) = some (.int .i64 p0) ∧ w'.cell? ⟨(a.add (k * 4)).block, (a.add (k * 4)).off + 1, none⟩ = some (.int .i64 p1) ∧ w'.cell? ⟨(a.add (k * 4)).block, (a.add (k * 4)).off + 2, none⟩ = some (.int .i64 p2) ∧ w'.cell? ⟨(a.add (k * 4)).block, (a.add (k * 4)).off + 3, none⟩ = some (.int .i64 p3))) (ds := []) #[false, false, false, false, false, false, false, false, false, false, false, false, false, false, false, false, false, false, false, false, false, false, false, false, false, false, false] (by kernel_rfl) rfl rfl (⟨d0, d1, d2, d3⟩) (fun hHeld => ?_); refine with_tabW fs8.tab fs8.bits (fun HT_ HW_ => ?_)
        refine pure_ (i := 0) (N := some 38) (v := ?_) (a' := ?_) #[true, false, false, false, false, false, false, false, false, false, false, false, false, false, false, false, false, false, false, false, false, false, false, false, false, false, false] rfl rfl (any_of HT_.out (by kernel_rfl)) (fun _ _ _ h => h) (Or.inl ⟨by rfl, ?_⟩) ?_ ?_
        rotate_left
        · intro w'
          go_simp
          with_reducible rfl
        rotate_left
        · simp only [Act.put, z1, z2, z3, i64_w, i32_w]
          rfl
        refine pure_ (i := 1) (N := some 39) (v := ?_) (a' := ?_) #[true, true, false, false, false, false, false, false, false, false, false, false, false, false, false, false, false, false, false, false, false, false, false, false, false, false, false] rfl rfl (any_of HT_.out (by kernel_rfl)) (fun _ _ _ h => h) (Or.inl ⟨by rfl, ?_⟩) ?_ ?_
        rotate_left
        · intro w'
          go_simp
          with_reducible rfl
        rotate_left
        · simp only [Act.put, z1, z2, z3, i64_w, i32_w]
          rfl
        refine pure_ (i := 2) (N := some 40) (v := ?_) (a' := ?_) #[true, true, true, false, false, false, false, false, false, false, false, false, false, false, false, false, false, false, false, false, false, false, false, false, false, false, false] rfl rfl (any_of HT_.out (by kernel_rfl)) (fun _ _ _ h => h) (Or.inl ⟨by rfl, ?_⟩) ?_ ?_
        rotate_left
        · intro w'
          go_simp
          with_reducible rfl
        rotate_left
        · simp only [Act.put, z1, z2, z3, i64_w, i32_w]
          rfl
        refine take_ (i := 3) (N := some 41) (v := ?_) (a' := ?_) #[true, true, true, true, false, false, false, false, false, false, false, false, false, false, false, false, false, false, false, false, false, false, false, false, false, false, false] rfl rfl (take_ofW HT_.out HW_.out (by kernel_rfl)) (fun _ _ _ h => h) (Or.inl ⟨by rfl, ?_⟩) hHeld ?_ ?_
        rotate_left
        · rintro w' ⟨s0, s1, s2, s3⟩
          go_simp
          with_reducible rfl
        rotate_left
        · simp only [Act.put, z1, z2, z3, i64_w, i32_w]
          rfl
        refine one_ (i := 4) (N := some 42) #[true, true, true, true, true, false, false, false, false, false, false, false, false, false, false, false, false, false, false, false, false, false, false, false, false, false, false] rfl rfl (one_of HT_.out (by kernel_rfl)) (by decide) (fun K hK => ?_)
        refine goes_ Try.func10 (by kernel_rfl) rfl #[.agg #[.int .i64 p0, .int .i64 p1, .int .i64 p2, .int .i64 p3]] (by rfl) rfl rfl sl_ ?_
        with_reducible refine Calls.mono (hCk.out _) ?_
        rintro e w' ⟨rfl, hb⟩
        have L2 := below_on hL hb rfl rfl rfl rfl
        have R2 := cells4_below L2 hbk hdc0
        refine ⟨_, rfl, ?_⟩
        refine hK.out _ _ (R2) (fun hHeld => ?_)
        clear hK K
        refine norm_ (a' := ?_) ?_ ?_
        rotate_left
        · show Act.put _ (some 42) _ = _
          simp only [Act.put, z1, z2, z3, i64_w, i32_w]
          rfl
        refine pure_ (i := 5) (N := some 43) (v := ?_) (a' := ?_) #[true, true, true, true, true, true, false, false, false, false, false, false, false, false, false, false, false, false, false, false, false, false, false, false, false, false, false] rfl rfl (any_of HT_.out (by kernel_rfl)) (fun _ _ _ h => h) (Or.inl ⟨by rfl, ?_⟩) ?_ ?_
        rotate_left
        · intro w'
          go_simp
          with_reducible rfl
        rotate_left
        · simp only [Act.put, z1, z2, z3, i64_w, i32_w]
          rfl
        refine pure_ (i := 6) (N := some 44) (v := ?_) (a' := ?_) #[true, true, true, true, true, true, true, false, false, false, false, false, false, false, false, false, false, false, false, false, false, false, false, false, false, false, false] rfl rfl (any_of HT_.out (by kernel_rfl)) (fun _ _ _ h => h) (Or.inl ⟨by rfl, ?_⟩) ?_ ?_
        rotate_left
        · intro w'
          go_simp
          with_reducible rfl
        rotate_left
        · simp only [Act.put, z1, z2, z3, i64_w, i32_w]
          rfl
        refine pure_ (i := 7) (N := some 45) (v := undef) (a' := ?_) #[true, true, true, true, true, true, true, true, false, false, false, false, false, false, false, false, false, false, false, false, false, false, false, false, false, false, false] rfl rfl (any_of HT_.out (by kernel_rfl)) (fun _ _ _ h => h) (Or.inr ⟨by rfl, rfl⟩) ?_ ?_
        rotate_left
        · simp only [Act.put, z1, z2, z3, i64_w, i32_w]
          rfl
        refine pure_ (i := 8) (N := some 46) (v := undef) (a' := ?_) #[true, true, true, true, true, true, true, true, true, false, false, false, false, false, false, false, false, false, false, false, false, false, false, false, false, false, false] rfl rfl (any_of HT_.out (by kernel_rfl)) (fun _ _ _ h => h) (Or.inr ⟨by rfl, rfl⟩) ?_ ?_
        rotate_left
        · simp only [Act.put, z1, z2, z3, i64_w, i32_w]
          rfl
        refine pure_ (i := 9) (N := some 47) (v := undef) (a' := ?_) #[true, true, true, true, true, true, true, true, true, true, false, false, false, false, false, false, false, false, false, false, false, false, false, false, false, false, false] rfl rfl (any_of HT_.out (by kernel_rfl)) (fun _ _ _ h => h) (Or.inr ⟨by rfl, rfl⟩) ?_ ?_
        rotate_left
        · simp only [Act.put, z1, z2, z3, i64_w, i32_w]
          rfl
        refine pure_ (i := 10) (N := some 48) (v := undef) (a' := ?_) #[true, true, true, true, true, true, true, true, true, true, true, false, false, false, false, false, false, false, false, false, false, false, false, false, false, false, false] rfl rfl (any_of HT_.out (by kernel_rfl)) (fun _ _ _ h => h) (Or.inr ⟨by rfl, rfl⟩) ?_ ?_
        rotate_left
        · simp only [Act.put, z1, z2, z3, i64_w, i32_w]
          rfl
        refine pure_ (i := 11) (N := some 49) (v := undef) (a' := ?_) #[true, true, true, true, true, true, true, true, true, true, true, true, false, false, false, false, false, false, false, false, false, false, false, false, false, false, false] rfl rfl (any_of HT_.out (by kernel_rfl)) (fun _ _ _ h => h) (Or.inr ⟨by rfl, rfl⟩) ?_ ?_
        rotate_left
        · simp only [Act.put, z1, z2, z3, i64_w, i32_w]
          rfl
        refine pure_ (i := 12) (N := some 50) (v := undef) (a' := ?_) #[true, true, true, true, true, true, true, true, true, true, true, true, true, false, false, false, false, false, false, false, false, false, false, false, false, false, false] rfl rfl (any_of HT_.out (by kernel_rfl)) (fun _ _ _ h => h) (Or.inr ⟨by rfl, rfl⟩) ?_ ?_
        rotate_left
        · simp only [Act.put, z1, z2, z3, i64_w, i32_w]
          rfl
        refine pure_ (i := 13) (N := some 51) (v := undef) (a' := ?_) #[true, true, true, true, true, true, true, true, true, true, true, true, true, true, false, false, false, false, false, false, false, false, false, false, false, false, false] rfl rfl (any_of HT_.out (by kernel_rfl)) (fun _ _ _ h => h) (Or.inr ⟨by rfl, rfl⟩) ?_ ?_
        rotate_left
        · simp only [Act.put, z1, z2, z3, i64_w, i32_w]
          rfl
        refine pure_ (i := 14) (N := some 52) (v := undef) (a' := ?_) #[true, true, true, true, true, true, true, true, true, true, true, true, true, true, true, false, false, false, false, false, false, false, false, false, false, false, false] rfl rfl (any_of HT_.out (by kernel_rfl)) (fun _ _ _ h => h) (Or.inr ⟨by rfl, rfl⟩) ?_ ?_
        rotate_left
        · simp only [Act.put, z1, z2, z3, i64_w, i32_w]
          rfl
        refine pure_ (i := 15) (N := some 53) (v := undef) (a' := ?_) #[true, true, true, true, true, true, true, true, true, true, true, true, true, true, true, true, false, false, false, false, false, false, false, false, false, false, false] rfl rfl (any_of HT_.out (by kernel_rfl)) (fun _ _ _ h => h) (Or.inr ⟨by rfl, rfl⟩) ?_ ?_
        rotate_left
        · simp only [Act.put, z1, z2, z3, i64_w, i32_w]
          rfl
        refine pure_ (i := 16) (N := some 54) (v := undef) (a' := ?_) #[true, true, true, true, true, true, true, true, true, true, true, true, true, true, true, true, true, false, false, false, false, false, false, false, false, false, false] rfl rfl (any_of HT_.out (by kernel_rfl)) (fun _ _ _ h => h) (Or.inr ⟨by rfl, rfl⟩) ?_ ?_
        rotate_left
        · simp only [Act.put, z1, z2, z3, i64_w, i32_w]
          rfl
        refine pure_ (i := 17) (N := some 55) (v := undef) (a' := ?_) #[true, true, true, true, true, true, true, true, true, true, true, true, true, true, true, true, true, true, false, false, false, false, false, false, false, false, false] rfl rfl (any_of HT_.out (by kernel_rfl)) (fun _ _ _ h => h) (Or.inr ⟨by rfl, rfl⟩) ?_ ?_
        rotate_left
        · simp only [Act.put, z1, z2, z3, i64_w, i32_w]
          rfl
        refine pure_ (i := 18) (N := some 56) (v := undef) (a' := ?_) #[true, true, true, true, true, true, true, true, true, true, true, true, true, true, true, true, true, true, true, false, false, false, false, false, false, false, false] rfl rfl (any_of HT_.out (by kernel_rfl)) (fun _ _ _ h => h) (Or.inr ⟨by rfl, rfl⟩) ?_ ?_
        rotate_left
        · simp only [Act.put, z1, z2, z3, i64_w, i32_w]
          rfl
        refine pure_ (i := 19) (N := some 57) (v := undef) (a' := ?_) #[true, true, true, true, true, true, true, true, true, true, true, true, true, true, true, true, true, true, true, true, false, false, false, false, false, false, false] rfl rfl (any_of HT_.out (by kernel_rfl)) (fun _ _ _ h => h) (Or.inr ⟨by rfl, rfl⟩) ?_ ?_
        rotate_left
        · simp only [Act.put, z1, z2, z3, i64_w, i32_w]
          rfl
        refine pure_ (i := 20) (N := some 58) (v := undef) (a' := ?_) #[true, true, true, true, true, true, true, true, true, true, true, true, true, true, true, true, true, true, true, true, true, false, false, false, false, false, false] rfl rfl (any_of HT_.out (by kernel_rfl)) (fun _ _ _ h => h) (Or.inr ⟨by rfl, rfl⟩) ?_ ?_
        rotate_left
        · simp only [Act.put, z1, z2, z3, i64_w, i32_w]
          rfl
        refine pure_ (i := 21) (N := some 59) (v := undef) (a' := ?_) #[true, true, true, true, true, true, true, true, true, true, true, true, true, true, true, true, true, true, true, true, true, true, false, false, false, false, false] rfl rfl (any_of HT_.out (by kernel_rfl)) (fun _ _ _ h => h) (Or.inr ⟨by rfl, rfl⟩) ?_ ?_
        rotate_left
        · simp only [Act.put, z1, z2, z3, i64_w, i32_w]
          rfl
        refine pure_ (i := 22) (N := some 60) (v := undef) (a' := ?_) #[true, true, true, true, true, true, true, true, true, true, true, true, true, true, true, true, true, true, true, true, true, true, true, false, false, false, false] rfl rfl (any_of HT_.out (by kernel_rfl)) (fun _ _ _ h => h) (Or.inr ⟨by rfl, rfl⟩) ?_ ?_
        rotate_left
        · simp only [Act.put, z1, z2, z3, i64_w, i32_w]
          rfl
        refine pure_ (i := 23) (N := some 61) (v := undef) (a' := ?_) #[true, true, true, true, true, true, true, true, true, true, true, true, true, true, true, true, true, true, true, true, true, true, true, true, false, false, false] rfl rfl (any_of HT_.out (by kernel_rfl)) (fun _ _ _ h => h) (Or.inr ⟨by rfl, rfl⟩) ?_ ?_
        rotate_left
        · simp only [Act.put, z1, z2, z3, i64_w, i32_w]
          rfl
        refine pure_ (i := 24) (N := some 62) (v := undef) (a' := ?_) #[true, true, true, true, true, true, true, true, true, true, true, true, true, true, true, true, true, true, true, true, true, true, true, true, true, false, false] rfl rfl (any_of HT_.out (by kernel_rfl)) (fun _ _ _ h => h) (Or.inr ⟨by rfl, rfl⟩) ?_ ?_
        rotate_left
        · simp only [Act.put, z1, z2, z3, i64_w, i32_w]
          rfl
        refine pure_ (i := 25) (N := some 63) (v := ?_) (a' := ?_) #[true, true, true, true, true, true, true, true, true, true, true, true, true, true, true, true, true, true, true, true, true, true, true, true, true, true, false] rfl rfl (any_of HT_.out (by kernel_rfl)) (fun _ _ _ h => h) (Or.inl ⟨by rfl, ?_⟩) ?_ ?_
        rotate_left
        · intro w'
          go_simp
          with_reducible rfl
        rotate_left
        · simp only [Act.put, z1, z2, z3, i64_w, i32_w]
          rfl
        refine pure_ (i := 26) (N := some 8) (v := ?_) (a' := ?_) #[true, true, true, true, true, true, true, true, true, true, true, true, true, true, true, true, true, true, true, true, true, true, true, true, true, true, true] rfl rfl (any_of HT_.out (by kernel_rfl)) (fun _ _ _ h => h) (Or.inl ⟨by rfl, ?_⟩) ?_ ?_
        rotate_left
        · intro w'
          go_simp
          with_reducible rfl
        rotate_left
        · simp only [Act.put, z1, z2, z3, i64_w, i32_w]
          rfl
        refine done_ (done_of HT_.out (by kernel_rfl)) ?_
        have F2 := Fil.below (Fil.drew hF.out) hb
        have own2 := own_below (own_drew hown.out) hb
        have hC2 := Kd.C_below (C_drew hC1.out) hb
        replace L2 := Aside0.mk L2
        replace own2 := Aside0.mk own2
        replace hC2 := Aside0.mk hC2
        go_wp2_with (first
          | (go_at_call 11
             with_reducible refine Calls.mono (hA.out _ F2) ?_
             rintro e w3 ⟨rfl, F3, U3⟩
             have L3 := U3.below L2.out (Nat.le_refl _) L2.out.size
             have own3 := own_upd own2.out U3 (Nat.lt_succ_self _)
             have h3 := L3.size)
          | (go_at_call 12
             with_reducible refine Calls.mono (samples_any _ _ _ _ _ F3) ?_
             rintro e w6 ⟨g, cp, rfl, hg, hcp, hS, b6⟩
             have F6 := Fil.below F3 b6
             have L6 := L3.trans (b6.mono L3.size)
             have own6 := own_below own3 b6
             obtain ⟨A0'', c0'', A1'', c1'', hvk6, hsl6, hC6, hc6⟩ := kept_slice own6 (by omega)
             have hq6 := (hsl1 w6).symm.trans (hsl6 w6)
             injection hq6 with hq6 _
             injection hq6 with e61 e62 e63
             subst e61 e63
             have hRd := hS.reads (by have := last8_len kept; omega))
          | (go_at_call 13
             with_reducible refine Calls.mono (len_any _ _ _ _ _ F6) ?_
             rintro e w7 ⟨rfl, rfl⟩)
          | (go_at_call 14
             with_reducible refine Calls.mono (timesynclaw22_same.calls 200 _ _ (last8 kept) _ _ (last8 kept) true _ hRd hcp hC6 hc6 (same_tells _ (by have := last8_len kept; omega))) ?_
             rintro e w8 ⟨rfl, ⟨nd, rfl⟩⟩
             have F8 := F6.drewN nd
             have L8 := pw_below_drewN L6 nd
             have own8 := own_below own6 (pw_below_drewN (Below.refl _ _) nd)))
        all_goals
          go_roundw
          case rel => exact ⟨k + 1, kept, by omega, by push_cast; rfl, by omega, own8, F8, L8⟩
          case measure => simp [intOf]; omega
    · have hkkI : ¬ (k : Int) < (len : Int) := by omega
      go_wp2_with (first
        | (go_at_call 9
           with_reducible refine Calls.mono (awake_any _) ?_
           rintro e w5 ⟨rfl, b5⟩
           have L5 := hL.trans (b5.mono hL.size)))
      all_goals (go_ret; exact ⟨rfl, L5⟩)

set_option maxHeartbeats 2000000 in
theorem FilterStages_rest (tol : Int) (A : Option Addr) (len cap : Nat) (w : World) (h : ¬ (0 ≤ tol ∧ tol ≤ 500000) ∨ 40 < len) :
    Calls Try.prog 3 #[.int .i64 tol, .slice A len cap] w fun e w' => e = .returned (.bool true) ∧ Below w.heap.size w w' := by
  by_cases ht : 0 ≤ tol ∧ tol ≤ 500000
  · have hlen : (40 : Int) < (len : Int) := by omega
    have hlenN : 40 < len := by omega
    have hN := Aside0.mk (fun W => new_ok tol W ht.1 ht.2)
    have t0 : decide (0 ≤ tol) = true := decide_eq_true ht.1
    have t1 : decide (tol ≤ 500000) = true := decide_eq_true ht.2
    clear h ht
    go_enter Try.func3, Try.ntmps3
    go_wp2_with (first
      | (go_at_call 8
         with_reducible refine Calls.mono (hN.out _) ?_
         rintro e w1 ⟨rfl, F1, B1⟩)
      | (go_at_call 9
         with_reducible refine Calls.mono (awake_any _) ?_
         rintro e w5 ⟨rfl, b5⟩
         have L5 := B1.trans (b5.mono B1.size)))
    all_goals (go_ret; exact ⟨rfl, L5⟩)
  · have hN := Aside0.mk (fun W => new_no tol W (by omega))
    by_cases t0 : 0 ≤ tol
    · have d0 : decide (0 ≤ tol) = true := decide_eq_true t0
      have d1 : decide (tol ≤ 500000) = false := decide_eq_false (by omega)
      have e1 : ¬ tol ≤ 500000 := by omega
      clear h ht
      go_enter Try.func3, Try.ntmps3
      go_wp2_with (first
        | (go_at_call 8
           with_reducible refine Calls.mono (hN.out _) ?_
           rintro e w1 ⟨rfl, rfl⟩)
        | (go_at_call 9
           with_reducible refine Calls.mono (awake_any _) ?_
           rintro e w5 ⟨rfl, b5⟩))
      all_goals (go_ret; exact ⟨rfl, b5⟩)
    · have d0 : decide (0 ≤ tol) = false := decide_eq_false t0
      clear h ht
      go_enter Try.func3, Try.ntmps3
      go_wp2_with (first
        | (go_at_call 8
           with_reducible refine Calls.mono (hN.out _) ?_
           rintro e w1 ⟨rfl, rfl⟩)
        | (go_at_call 9
           with_reducible refine Calls.mono (awake_any _) ?_
           rintro e w5 ⟨rfl, b5⟩))
      all_goals (go_ret; exact ⟨rfl, b5⟩)
theorem FilterStages_walk (tol : Int) (A : Option Addr) (len cap : Nat) (l : List (Int × Int × Int × Int)) (w : World) (w0 : (Lit.int .i64 tol).wf = true) (hl : Rk.Row w A len cap l) :
    Calls Try.prog 3 #[.int .i64 tol, .slice A len cap] w fun e w' => e = .returned (.bool true) ∧ Below w.heap.size w w' := by
  by_cases h : ¬ (0 ≤ tol ∧ tol ≤ 500000) ∨ 40 < len
  · exact FilterStages_rest tol A len cap w h
  · exact FilterStages_go tol A len cap l w hl (by omega) (by omega) (by omega)
end Go.Proofs.Ytkbbjgjbfdpciaa.Fi
