/- interval.Hull. -/
import Derived.Test.YtfnfmlcngleemaaTh
namespace Go.Proofs.Ytfnfmlcngleemaa.Th
open Go Go.RowKit Go.Proofs.YtfnfmlcngleemaaW.PrintWords Go.Proofs.YtfnfmlcngleemaaW.PrintLast Go.Proofs.YtfnfmlcngleemaaW.PrintMore Go.Proofs.Ytfnfmlcngleemaa.PAll
set_option linter.unusedVariables false
set_option linter.unusedSimpArgs false

set_option maxHeartbeats 4000000 in
theorem Hull_stop (k : Nat) (A0 : Option Addr) (c0 : Nat) (l0 : List S25) (need : Int) (rs : List S44) (w : World) (hr0 : Kd.C k25 w A0 l0.length l0) (hc0 : l0.length ≤ c0) (h : interval_runs.f k l0 = some rs) (hs : need < 1 ∨ idx need rs < 0) :
    Calls Try.prog 9 #[.slice A0 l0.length c0, .int .i64 need] w fun e w' => e = .returned (.tuple #[.agg #[.int .i64 0, .int .i64 0], .bool false]) ∧ Below w.heap.size w w' := by
  have R2 := blk_alloc (blk_new w (.cells #[.int .i64 need] 3)) (.cells #[.int .i64 0, .int .i64 0] 25)
  have R3 := blk_new (w.alloc (.cells #[.int .i64 need] 3)) (.cells #[.int .i64 0, .int .i64 0] 25)
  have hz : (w.alloc (.cells #[.int .i64 need] 3)).heap.size = w.heap.size + 1 := by rw [Go.Sort.alloc_eq_grow, Go.Sort.size_grow]; rfl
  rw [hz] at R3
  have HB := below_alloc (below_alloc (Below.refl w.heap.size w) (.cells #[.int .i64 need] 3)) (.cells #[.int .i64 0, .int .i64 0] 25)
  have hC := Kd.C_below hr0 HB
  obtain ⟨ix, hix⟩ : ∃ ix, idx need rs = ix := ⟨_, rfl⟩
  rw [hix] at hs
  have hI : ∀ (base : Nat) (ok : Nat → Prop) (v : Value) (W : World), Kd.R k44 44 W base ok v rs → W.cell? ⟨w.heap.size, 0, none⟩ = some (.int .i64 need) →
      Calls Try.prog 15 #[v, .func (.func 14) #[] #[.pointer (some ⟨w.heap.size, 0, none⟩)]] W fun e w' => e = .returned (.int .i64 ix) ∧ Below W.heap.size W w' := by
    intro base ok v W HR hn
    rw [← hix]
    exact index_any w.heap.size need base ok v rs W HR hn
  replace R2 := Aside0.mk R2
  replace R3 := Aside0.mk R3
  replace HB := Aside0.mk HB
  replace hC := Aside0.mk hC
  replace h := Aside0.mk h
  replace hix := Aside0.mk hix
  replace hI := Aside0.mk hI
  by_cases hA : need < 1
  · have dA : decide (need < 1) = true := decide_eq_true hA
    clear hs hr0 hA
    go_enter Try.func9, Try.ntmps9
    go_upto_region 1 with (fail)
    generalize hwa : (w.alloc (.cells #[.int .i64 need] 3)).alloc (.cells #[.int .i64 0, .int .i64 0] 25) = wa at *
    go_wp2_with (first
      | (go_at_call 13
         with_reducible refine Calls.mono (interval_runs.calls k A0 c0 l0 rs wa hC.out hc0 h.out) ?_
         rintro e w1 ⟨v, rfl, hR, hb1⟩
         obtain ⟨Av, cv, rfl⟩ := Kd.R_slice hR
         have N2 := blk_below R2.out hb1
         have N3 := blk_below R3.out hb1
         have HB1 := below_step HB.out hb1
         have hcon := hI.out _ _ _ w1 hR ((blk_cell N2 0).trans rfl)
         clear hR
         replace N2 := Aside0.mk N2
         replace N3 := Aside0.mk N3
         replace HB1 := Aside0.mk HB1
         replace hcon := Aside0.mk hcon)
      | (go_at_call 15
         with_reducible refine Calls.mono hcon.out ?_
         rintro e w2 ⟨rfl, hb2⟩
         have M2 := blk_below N2.out hb2
         have M3 := blk_below N3.out hb2
         have HB2 := below_step HB1.out hb2
         have cn2 : w2.cell? ⟨w.heap.size, 0, none⟩ = some (.int .i64 need) := (blk_cell M2 0).trans rfl
         obtain ⟨cz0, cz1⟩ := cs2 M3
         obtain ⟨fz0, fz1⟩ := fs2 M3
         clear M2 hb2
         replace M3 := Aside0.mk M3
         replace HB2 := Aside0.mk HB2))
    refine bodyPost_ret (results_ct rfl _ _ (w.heap.size + 1) 25 #[.int .i64 0, .int .i64 0] (0, 0) _ rfl (by refine blk_put (cs := #[.int .i64 0, .int .i64 0]) ?_ 1 _ rfl; refine blk_put (cs := #[.int .i64 0, .int .i64 0]) ?_ 0 _ rfl; exact M3.out) Try.underlying25 rfl (by kernel_rfl)) rfl ?_
    exact ⟨rfl, below_set (below_set HB2.out (Nat.le_succ _)) (Nat.le_succ _)⟩
  · have dA : decide (need < 1) = false := decide_eq_false hA
    have dB : decide (ix < 0) = true := decide_eq_true (hs.resolve_left hA)
    clear hs hr0 hA
    go_enter Try.func9, Try.ntmps9
    go_upto_region 1 with (fail)
    generalize hwa : (w.alloc (.cells #[.int .i64 need] 3)).alloc (.cells #[.int .i64 0, .int .i64 0] 25) = wa at *
    go_wp2_with (first
      | (go_at_call 13
         with_reducible refine Calls.mono (interval_runs.calls k A0 c0 l0 rs wa hC.out hc0 h.out) ?_
         rintro e w1 ⟨v, rfl, hR, hb1⟩
         obtain ⟨Av, cv, rfl⟩ := Kd.R_slice hR
         have N2 := blk_below R2.out hb1
         have N3 := blk_below R3.out hb1
         have HB1 := below_step HB.out hb1
         have hcon := hI.out _ _ _ w1 hR ((blk_cell N2 0).trans rfl)
         clear hR
         replace N2 := Aside0.mk N2
         replace N3 := Aside0.mk N3
         replace HB1 := Aside0.mk HB1
         replace hcon := Aside0.mk hcon)
      | (go_at_call 15
         with_reducible refine Calls.mono hcon.out ?_
         rintro e w2 ⟨rfl, hb2⟩
         have M2 := blk_below N2.out hb2
         have M3 := blk_below N3.out hb2
         have HB2 := below_step HB1.out hb2
         have cn2 : w2.cell? ⟨w.heap.size, 0, none⟩ = some (.int .i64 need) := (blk_cell M2 0).trans rfl
         obtain ⟨cz0, cz1⟩ := cs2 M3
         obtain ⟨fz0, fz1⟩ := fs2 M3
         clear M2 hb2
         replace M3 := Aside0.mk M3
         replace HB2 := Aside0.mk HB2))
    refine bodyPost_ret (results_ct rfl _ _ (w.heap.size + 1) 25 #[.int .i64 0, .int .i64 0] (0, 0) _ rfl (by refine blk_put (cs := #[.int .i64 0, .int .i64 0]) ?_ 1 _ rfl; refine blk_put (cs := #[.int .i64 0, .int .i64 0]) ?_ 0 _ rfl; exact M3.out) Try.underlying25 rfl (by kernel_rfl)) rfl ?_
    exact ⟨rfl, below_set (below_set HB2.out (Nat.le_succ _)) (Nat.le_succ _)⟩

set_option maxHeartbeats 4000000 in
theorem Hull_main (k : Nat) (A0 : Option Addr) (c0 : Nat) (l0 : List S25) (need : Int) (rs rv : List S44) (w : World) (hr0 : Kd.C k25 w A0 l0.length l0) (hc0 : l0.length ≤ c0) (h : interval_runs.f k l0 = some rs) (hA : ¬ need < 1) (h0 : 0 ≤ idx need rs) (hv : interval_run_16.f rs = some rv) (h1 : 0 ≤ idx need rv) :
    Calls Try.prog 9 #[.slice A0 l0.length c0, .int .i64 need] w fun e w' => e = .returned (.tuple #[.agg #[.int .i64 (rd_T44 rs (idx need rs)).f0, .int .i64 (rd_T44 rv (idx need rv)).f1], .bool true]) ∧ Below w.heap.size w w' := by
  have R2 := blk_alloc (blk_new w (.cells #[.int .i64 need] 3)) (.cells #[.int .i64 0, .int .i64 0] 25)
  have R3 := blk_new (w.alloc (.cells #[.int .i64 need] 3)) (.cells #[.int .i64 0, .int .i64 0] 25)
  have hz : (w.alloc (.cells #[.int .i64 need] 3)).heap.size = w.heap.size + 1 := by rw [Go.Sort.alloc_eq_grow, Go.Sort.size_grow]; rfl
  rw [hz] at R3
  have HB := below_alloc (below_alloc (Below.refl w.heap.size w) (.cells #[.int .i64 need] 3)) (.cells #[.int .i64 0, .int .i64 0] 25)
  have hC := Kd.C_below hr0 HB
  have hlt0 := idx_lt need rs h0
  have hlt1 := idx_lt need rv h1
  have hlen : rs.length = rv.length := by
    unfold interval_run_16.f at hv
    split at hv
    · rw [← Option.some.inj hv, List.length_reverse]
    · cases hv
  obtain ⟨ix, hix⟩ : ∃ ix, idx need rs = ix := ⟨_, rfl⟩
  obtain ⟨iy, hiy⟩ : ∃ iy, idx need rv = iy := ⟨_, rfl⟩
  rw [hix] at h0 hlt0 ⊢
  rw [hiy] at h1 hlt1 ⊢
  have hI : ∀ (base : Nat) (ok : Nat → Prop) (v : Value) (W : World), Kd.R k44 44 W base ok v rs → W.cell? ⟨w.heap.size, 0, none⟩ = some (.int .i64 need) →
      Calls Try.prog 15 #[v, .func (.func 14) #[] #[.pointer (some ⟨w.heap.size, 0, none⟩)]] W fun e w' => e = .returned (.int .i64 ix) ∧ Below W.heap.size W w' := by
    intro base ok v W HR hn
    rw [← hix]
    exact index_any w.heap.size need base ok v rs W HR hn
  have hJ : ∀ (base : Nat) (ok : Nat → Prop) (v : Value) (W : World), Kd.R k44 44 W base ok v rv → W.cell? ⟨w.heap.size, 0, none⟩ = some (.int .i64 need) →
      Calls Try.prog 15 #[v, .func (.func 14) #[] #[.pointer (some ⟨w.heap.size, 0, none⟩)]] W fun e w' => e = .returned (.int .i64 iy) ∧ Below W.heap.size W w' := by
    intro base ok v W HR hn
    rw [← hiy]
    exact index_any w.heap.size need base ok v rv W HR hn
  have dA : decide (need < 1) = false := decide_eq_false hA
  have dB : decide (ix < 0) = false := decide_eq_false (by omega)
  have p0 : (0 ≤ ix) = True := eq_true h0
  have p1 : (ix < (rs.length : Int)) = True := eq_true hlt0
  have q0 : (0 ≤ iy) = True := eq_true h1
  have q1 : (iy < (rs.length : Int)) = True := eq_true (by omega)
  replace R2 := Aside0.mk R2
  replace R3 := Aside0.mk R3
  replace HB := Aside0.mk HB
  replace hC := Aside0.mk hC
  replace h := Aside0.mk h
  replace hv := Aside0.mk hv
  replace hix := Aside0.mk hix
  replace hiy := Aside0.mk hiy
  replace hI := Aside0.mk hI
  replace hJ := Aside0.mk hJ
  replace h0 := Aside0.mk h0
  replace h1 := Aside0.mk h1
  replace hlt0 := Aside0.mk hlt0
  replace hlt1 := Aside0.mk hlt1
  replace hlen := Aside0.mk hlen
  clear hr0 hA hz
  go_enter Try.func9, Try.ntmps9
  go_upto_region 1 with (fail)
  generalize hwa : (w.alloc (.cells #[.int .i64 need] 3)).alloc (.cells #[.int .i64 0, .int .i64 0] 25) = wa at *
  clear hwa
  go_wp2_with (first
    | (go_at_call 13
       with_reducible refine Calls.mono (interval_runs.calls k A0 c0 l0 rs wa hC.out hc0 h.out) ?_
       rintro e w1 ⟨v, rfl, hR, hb1⟩
       obtain ⟨Av, cv, rfl⟩ := Kd.R_slice hR
       have N2 := blk_below R2.out hb1
       have hcon := hI.out _ _ _ w1 hR ((blk_cell N2 0).trans rfl)
       replace hR := Aside0.mk hR
       replace hb1 := Aside0.mk hb1
       replace N2 := Aside0.mk N2
       replace hcon := Aside0.mk hcon)
    | (go_at_call 15
       with_reducible refine Calls.mono hcon.out ?_
       rintro e w2 ⟨rfl, hb2⟩
       have M2 := blk_below N2.out hb2
       have hR2 := Kd.R_below hR.out hb2
       have hB2 := below_step hb1.out hb2
       have cn2 : w2.cell? ⟨w.heap.size, 0, none⟩ = some (.int .i64 need) := (blk_cell M2 0).trans rfl
       obtain ⟨ad, e1, x0, x1, x2⟩ := at_T44 (Kd.R_reads' hR2).2.2 ix h0.out hlt0.out
       cases e1
       have hrev := interval_run_16.calls (fun k_ => some k_ = (.slice (some ad) rs.length cv : Value).ownBlock) _ rs rv wa w2 hB2 (Kd.R_tight rfl hR2) hv.out
       clear M2 hb2 hR2 hB2 hcon
       replace hrev := Aside0.mk hrev)
    | (go_at_call 16
       with_reducible refine Calls.mono hrev.out ?_
       rintro e w3 ⟨rfl, hR3, hB3, hk3⟩
       clear x0 x1 x2 cn2
       have N3 := blk_below R2.out hB3
       have hcon3 := hJ.out _ _ _ w3 hR3 ((blk_cell N3 0).trans rfl)
       clear hk3 hrev
       replace hR3 := Aside0.mk hR3
       replace hB3 := Aside0.mk hB3
       replace N3 := Aside0.mk N3
       replace hcon3 := Aside0.mk hcon3)
    | (go_at_call 15
       with_reducible refine Calls.mono hcon3.out ?_
       rintro e w4 ⟨rfl, hb4⟩
       have hR4 := Kd.R_below hR3.out hb4
       have hB4 := below_step hB3.out hb4
       have M3 := blk_below R3.out hB4
       have HB4 := below_step HB.out hB4
       obtain ⟨ad4, e4, y0, y1, y2⟩ := at_T44 (Kd.R_reads' hR4).2.2 iy h1.out hlt1.out
       obtain rfl : ad = ad4 := Option.some.inj e4
       obtain ⟨cz0, cz1⟩ := cs2 M3
       obtain ⟨fz0, fz1⟩ := fs2 M3
       clear hb4 hR4 hB4 hcon3 e4
       replace M3 := Aside0.mk M3
       replace HB4 := Aside0.mk HB4))
  refine bodyPost_ret (results_ct rfl _ _ (w.heap.size + 1) 25 #[.int .i64 (rd_T44 rs ix).f0, .int .i64 (rd_T44 rv iy).f1] (0, 0) _ rfl (by refine blk_put (cs := #[.int .i64 (rd_T44 rs ix).f0, .int .i64 0]) ?_ 1 _ rfl; refine blk_put (cs := #[.int .i64 0, .int .i64 0]) ?_ 0 _ rfl; exact M3.out) Try.underlying25 rfl (by kernel_rfl)) rfl ?_
  exact ⟨rfl, below_set (below_set HB4.out (Nat.le_succ _)) (Nat.le_succ _)⟩
end Go.Proofs.Ytfnfmlcngleemaa.Th
