/- slices.Delete of one candidate out of a row of the call's own. -/
import Derived.Test.YtbcmfmlbagjdoaaCo
import Derived.Shelf.RegionOpenPlain
import Derived.WalkKit
import Derived.Deep.LoopGhost
import Derived.Deep.RegionLaw
import Derived.Lib.Walk
import Derived.Sort.WalkB12
import Derived.Lib.SliceRun
namespace Go.Proofs.Ytbcmfmlbagjdoaa.Ca
open Go Go.RowKit Go.Shelf Go.Lib Go.Sort Go.Proofs.YtbcmfmlbagjdoaaW.PrintWords Go.Proofs.YtbcmfmlbagjdoaaW.PrintLast Go.Proofs.YtbcmfmlbagjdoaaW.PrintMore Go.Proofs.Ytbcmfmlbagjdoaa.PAll
attribute [local go_sem] max2_int min2_int max_two min_two max_three min_three max_four min_four
set_option linter.unusedVariables false
set_option linter.unusedSimpArgs false

theorem blk_setCells (g : Nat) (t : TypeId) : ∀ (vs : List Value) (o : Nat) (w : World) (cur : Array Value), w.heap[g]? = some (.cells cur t (0, 0)) → (w.setCells g o vs).heap[g]? = some (.cells (setMany cur o vs) t (0, 0))
  | [], _, _, _, h => h
  | v :: r, o, w, cur, h => by
    show ((w.setCell ⟨g, o, none⟩ v).setCells g (o + 1) r).heap[g]? = _
    refine blk_setCells g t r (o + 1) _ _ ?_
    rw [Go.Sort.setCell_eq]
    show (w.heap.modify g _)[g]? = _
    rw [Array.getElem?_modify, if_pos rfl, h]
    rfl
theorem upd_setCells (g : Nat) : ∀ (vs : List Value) (o : Nat) (w : World), (w.setCells g o vs).os = w.os ∧ (w.setCells g o vs).tape = w.tape ∧ (w.setCells g o vs).output = w.output ∧ (w.setCells g o vs).heap.size = w.heap.size ∧ ∀ k, k ≠ g → (w.setCells g o vs).heap[k]? = w.heap[k]?
  | [], _, _ => ⟨rfl, rfl, rfl, rfl, fun _ _ => rfl⟩
  | v :: r, o, w => by
    have h := upd_setCells g r (o + 1) (w.setCell ⟨g, o, none⟩ v)
    refine ⟨h.1, h.2.1, h.2.2.1, h.2.2.2.1.trans (by simp [World.setCell]), fun k hk => (h.2.2.2.2 k hk).trans (Below.heap_setCell w ⟨g, o, none⟩ v k hk)⟩
theorem flat_append (l m : List S34) : flat (l ++ m) = flat l ++ flat m := by unfold flat; rw [List.flatMap_append]
theorem flat_split (l : List S34) (n : Nat) (h : n ≤ l.length) : flat l = flat (l.take n) ++ flat (l.drop n) := by rw [← flat_append, List.take_append_drop]
theorem flat_drop (l : List S34) (n j : Nat) (h : n ≤ l.length) : (flat (l.drop n))[j]? = (flat l)[n * 5 + j]? := by
  rw [flat_split l n h, List.getElem?_append_right (by rw [flat_length, List.length_take]; omega), flat_length, List.length_take]
  congr 1
  omega
theorem run_clear_one (w : World) (ty : TypeId) (g o c : Nat) (hc : ∀ j, j < 5 → (w.cell? ⟨g, o + j, none⟩).isSome = true) (hf : ∀ j, j < 5 → w.frozen? ⟨g, o + j, none⟩ = false) :
    (Builtin.clear_ #[22] ty #[.slice (some ⟨g, o, none⟩) 1 c]).run Try.prog w = .ok (.tuple #[]) (w.setCells g o (List.replicate 5 (.int .i64 0))) := by
  have hst := run_storeCells_cells (P := Try.prog) g o (List.replicate 5 (.int .i64 0)) 0 w (by simpa using hc) (by simpa using hf) (by intro v hv'; rw [List.eq_of_mem_replicate hv']; rfl)
  simp only [Nat.add_zero] at hst
  have hz : (Builtin.zeroCells (Value.agg #[.int .i64 0, .int .i64 0, .int .i64 0, .int .i64 0, .int .i64 0]).cells 1).toList = List.replicate 5 (.int .i64 0) := by
    simp [Builtin.zeroCells, Value.cells]
    rfl
  rw [show (List.replicate 5 (Value.int .i64 0)) = [.int .i64 0, .int .i64 0, .int .i64 0, .int .i64 0, .int .i64 0] from rfl] at *
  simp [Builtin.clear_, run_underlying Try.underlying22, Try.zeroValue34, hz, hst, Result.andThen]

theorem cell_of {w : World} {g : Nat} {cur : Array Value} {t : TypeId} (h : w.heap[g]? = some (.cells cur t (0, 0))) (j : Nat) (hj : j < cur.size) : (w.cell? ⟨g, j, none⟩).isSome = true := by
  rw [blk_cell h, Array.getElem?_eq_getElem hj]; rfl

set_option maxHeartbeats 4000000 in
set_option maxRecDepth 1000000 in
theorem delete_any (base g cap i : Nat) (l : List S34) (w : World) (h : w.ownsRow base 34 5 (.slice (some ⟨g, 0, none⟩) l.length cap) l.length (flat l)) (hi : i < l.length) :
    Calls Try.prog 26 #[.slice (some ⟨g, 0, none⟩) l.length cap, .int .i64 i, .int .i64 ((i : Int) + 1)] w fun e w' => e = .returned (.slice (some ⟨g, 0, none⟩) (l.length - 1) cap) ∧
      w'.ownsRow base 34 5 (.slice (some ⟨g, 0, none⟩) (l.length - 1) cap) (l.length - 1) (flat (l.eraseIdx i)) ∧ (base ≤ w.heap.size → Below base w w') := by
  obtain ⟨_, h0 | ⟨g', cap', cur, e0, hg, hh, hcap, hmax, hsz, htake⟩⟩ := h
  · exact absurd h0.1 (by simp)
  · injection e0 with e1 e2 e3
    injection e1 with e1
    injection e1 with e1
    subst e1
    subst e3
    have hm : cap ≤ 9223372036854775807 := by simp only [maxLen] at hmax; omega
    generalize hn : l.length = n at *
    obtain ⟨news, hnews⟩ : ∃ news, news = flat (l.drop (i + 1)) := ⟨_, rfl⟩
    have hlen : news.length = (n - (i + 1)) * 5 := by rw [hnews, flat_length, List.length_drop, hn]
    have hcell : ∀ j u, j < n * 5 → (flat l)[j]? = some u → w.cell? ⟨g, j, none⟩ = some u := by
      intro j u hj hu
      rw [← htake, List.getElem?_take, if_pos hj, Array.getElem?_toList] at hu
      exact (blk_cell hh j).trans hu
    obtain ⟨A, hA, hsrc⟩ : ∃ A : Addr, (if cap = i + 1 then some (⟨g, 0, none⟩ : Addr) else some ⟨g, (i + 1) * 5, none⟩) = some A ∧ Hid (∀ t u, news[t]? = some u → w.drew.cell? (A.add t) = some u) := by
      by_cases h : cap = i + 1
      · refine ⟨⟨g, 0, none⟩, by simp [h], fun t u hu => ?_⟩
        have h0 : news.length = 0 := by rw [hlen]; omega
        rw [List.length_eq_zero_iff.1 h0] at hu
        simp at hu
      · refine ⟨⟨g, (i + 1) * 5, none⟩, by simp [h], fun t u hu => ?_⟩
        have ht : t < (n - (i + 1)) * 5 := by
          have := (List.getElem?_eq_some_iff.1 hu).1
          rwa [hlen] at this
        rw [hnews, flat_drop l (i + 1) t (by omega)] at hu
        rw [Addr.add_lit]
        exact hcell _ u (by omega) hu
    have s1 : Hid (news.length = (n - (i + 1)) * 5) := hlen
    have s2 : Hid (∀ u ∈ news, u.oneCell' = true) := by
      intro u hu
      rw [hnews] at hu
      exact flat_one _ u hu
    have hsize : n * 5 ≤ cur.size := by rw [hsz]; exact Nat.mul_le_mul_right 5 hcap
    have s3 : Hid (∀ t, t < news.length → (w.drew.cell? ⟨g, 0 + i * 5 + t, none⟩).isSome = true ∧ w.drew.frozen? ⟨g, 0 + i * 5 + t, none⟩ = false) := by
      intro t ht
      rw [hlen] at ht
      exact ⟨cell_of (blk_drew hh) _ (by omega), blk_frozen (blk_drew hh) _⟩
    obtain ⟨W1, hW1⟩ : ∃ W1, W1 = w.drew.setCells g (0 + i * 5) news := ⟨_, rfl⟩
    have hb1 : W1.heap[g]? = some (.cells (setMany cur (0 + i * 5) news) 34 (0, 0)) := by rw [hW1]; exact blk_setCells g 34 _ _ _ _ (blk_drew hh)
    have hs1 : (setMany cur (0 + i * 5) news).size = cur.size := size_setMany _ _ _
    have hcl : ∀ ty, (Builtin.clear_ #[22] ty #[.slice (some ⟨g, (n - 1) * 5, none⟩) 1 (cap - (n - 1))]).run Try.prog W1 = .ok (.tuple #[]) (W1.setCells g ((n - 1) * 5) (List.replicate 5 (.int .i64 0))) :=
      fun ty => run_clear_one W1 ty g _ _ (fun j hj => cell_of hb1 _ (by rw [hs1]; omega)) (fun j hj => blk_frozen hb1 _)
    have hb2 : (W1.setCells g ((n - 1) * 5) (List.replicate 5 (.int .i64 0))).heap[g]? = some (.cells (setMany (setMany cur (0 + i * 5) news) ((n - 1) * 5) (List.replicate 5 (.int .i64 0))) 34 (0, 0)) := blk_setCells g 34 _ _ _ _ hb1
    have hout : (W1.setCells g ((n - 1) * 5) (List.replicate 5 (.int .i64 0))).ownsRow base 34 5 (.slice (some ⟨g, 0, none⟩) (n - 1) cap) (n - 1) (flat (l.eraseIdx i)) ∧ (base ≤ w.heap.size → Below base w (W1.setCells g ((n - 1) * 5) (List.replicate 5 (.int .i64 0)))) := by
      refine ⟨⟨by rw [flat_length, List.length_eraseIdx, if_pos (by omega), hn], .inr ⟨g, cap, _, rfl, hg, hb2, by omega, hmax, ?_, ?_⟩⟩, ?_⟩
      · rw [size_setMany, hs1, hsz]
      · have he : flat (l.eraseIdx i) = flat (l.take i) ++ news := by rw [hnews, ← flat_append, List.eraseIdx_eq_take_drop_succ]
        apply List.ext_getElem?
        intro t
        rw [List.getElem?_take]
        by_cases ht : t < (n - 1) * 5
        · rw [if_pos ht, Array.getElem?_toList]
          have ht2 : t < cur.size := by omega
          have h3 : (setMany (setMany cur (0 + i * 5) news) ((n - 1) * 5) (List.replicate 5 (.int .i64 0)))[t]! = if 0 + i * 5 ≤ t ∧ t < 0 + i * 5 + news.length then news[t - (0 + i * 5)]! else cur[t]! := by
            rw [get_setMany _ _ _ _ (by rw [hs1]; exact ht2), if_neg (by omega), get_setMany _ _ _ _ ht2]
          have ht3 : t < (setMany (setMany cur (0 + i * 5) news) ((n - 1) * 5) (List.replicate 5 (.int .i64 0))).size := by rw [size_setMany, hs1]; exact ht2
          rw [Array.getElem?_eq_getElem ht3, ← getElem!_pos _ t ht3, h3, he]
          by_cases hti : t < i * 5
          · rw [if_neg (by omega), List.getElem?_append_left (by rw [flat_length, List.length_take]; omega)]
            have h5 : (flat (l.take i))[t]? = (flat l)[t]? := by rw [flat_split l i (by omega), List.getElem?_append_left (by rw [flat_length, List.length_take]; omega)]
            rw [h5, ← htake, List.getElem?_take, if_pos (by omega), Array.getElem?_toList, getElem!_pos cur t ht2, Array.getElem?_eq_getElem ht2]
          · have ht4 : t - i * 5 < news.length := by rw [hlen]; omega
            rw [if_pos ⟨by omega, by rw [hlen]; omega⟩, List.getElem?_append_right (by rw [flat_length, List.length_take]; omega), flat_length, List.length_take, show min i l.length = i from by omega, Nat.zero_add, getElem!_pos news _ ht4, List.getElem?_eq_getElem ht4]
        · rw [if_neg ht, List.getElem?_eq_none (by rw [flat_length, List.length_eraseIdx, if_pos (by omega), hn]; omega)]
      · intro hB
        have u1 := upd_setCells g news (0 + i * 5) w.drew
        have u2 := upd_setCells g (List.replicate 5 (.int .i64 0)) ((n - 1) * 5) W1
        rw [← hW1] at u1
        refine ⟨u2.1.trans u1.1, u2.2.1.trans u1.2.1, u2.2.2.1.trans u1.2.2.1, ?_, fun k hk => (u2.2.2.2.2 k (by omega)).trans (u1.2.2.2.2 k (by omega))⟩
        rw [u2.2.2.2.1, u1.2.2.2.1]
        exact Nat.le_refl _
    replace hout := Aside0.mk hout
    have hW : Hid (W1 = w.drew.setCells g (0 + i * 5) news) := hW1
    have hic : i ≤ cap := by omega
    have hjc : i + 1 ≤ cap := by omega
    have hni : i + (n - (i + 1)) = n - 1 := by omega
    have hi63 : (n : Int) ≤ 9223372036854775807 := by omega
    clear hW1 hb1 hb2 hs1 hnews hlen hcell htake hh hsz hsize
    have mixed : Try.prog.follows .mixedOrders = true := by kernel_rfl
    have hb1 : 0 ≤ (i : Int) + 1 := by omega
    have hb2 : (i : Int) + 1 ≤ (n : Int) := by omega
    have hb3 : (i : Int) ≤ (n : Int) := by omega
    have hb4 : ((i : Int) == (i : Int) + 1) = false := by simp; omega
    go_enter Try.func26, Try.ntmps26
    go_wp2_with fail
    go_region_law_o (refine step_append_room rfl (.tmp 22) (.tmp 25) 22 rfl 34 inf34 5 Try.underlying22 (by kernel_rfl) (by kernel_rfl) g 0 i cap (by simp [Act.eval, Act.put]) A (n - (i + 1)) (cap - (i + 1)) news (by simp [Act.eval, Act.put]) s1.out hsrc.out s2.out (by omega) s3.out ?_; rw [← hW.out])
    have hn1 : n - (n - 1) = 1 := by omega
    have hb5 : 0 ≤ ((n - 1 : Nat) : Int) := by omega
    have hb6 : ((n - 1 : Nat) : Int) ≤ (n : Int) := by omega
    have hb7 : (n : Int) ≤ (cap : Int) := by omega
    have hb8 : ¬ cap = n - 1 := by omega
    go_wp2
    go_ret
    exact ⟨rfl, hout.out⟩

/-- of a row of the call's own: one candidate less -/
theorem delete_row {base : Nat} {v : Value} {l : List S34} {w : World} {ok : Nat → Prop} (h : Kd.R k34 34 w base ok v l) (i : Nat) (hi : i < l.length) :
    Calls Try.prog 26 #[v, .int .i64 i, .int .i64 ((i : Int) + 1)] w fun e w' => ∃ v', e = .returned v' ∧ Kd.R k34 34 w' base (fun _ => True) v' (l.eraseIdx i) ∧ (base ≤ w.heap.size → Below base w w') := by
  have ho := own_of_row h
  obtain ⟨hl, h0 | ⟨g, cap, cur, rfl, hc⟩⟩ := ho
  · have := h0.2; omega
  · refine (delete_any base g cap i l w ⟨hl, .inr ⟨g, cap, cur, rfl, hc⟩⟩ hi).mono ?_
    rintro e w' ⟨rfl, hown, hb⟩
    have e1 : (l.eraseIdx i).length = l.length - 1 := by rw [List.length_eraseIdx, if_pos hi]
    rw [← e1] at hown
    exact ⟨_, rfl, by rw [← e1]; exact row_of_own hown, hb⟩
end Go.Proofs.Ytbcmfmlbagjdoaa.Ca
