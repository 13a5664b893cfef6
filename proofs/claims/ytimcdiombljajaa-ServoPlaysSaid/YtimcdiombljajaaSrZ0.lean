/- Four ways of the reference's Sample. -/
import Derived.Test.YtimcdiombljajaaSrA
namespace Go.Proofs.Ytimcdiombljajaa.Sv
open Go Go.RowKit Go.Proofs.YtimcdiombljajaaW.PrintWords Go.Proofs.YtimcdiombljajaaW.PrintLast Go.Proofs.YtimcdiombljajaaW.PrintMore Go.Proofs.Ytimcdiombljajaa.PAll Go.Proofs.Ytimcdiombljajaa.PureDiv
attribute [local go_sem] max2_int min2_int max_two min_two max_three min_three max_four min_four
set_option linter.unusedVariables false
set_option linter.unusedSimpArgs false

set_option maxRecDepth 8000 in
set_option maxHeartbeats 8000000 in
theorem rsample_S11 (b : Nat) (c : Conf) (I n last : Int) (off span : Int) (w : World) (hb : w.heap[b]? = some (rvo c ⟨I, n, last⟩)) (hc : okC c.kp c.ki c.li c.sf c.sl) (h : inS off span) (hn : (n == 0) = true) (hz : off < 0) (ht : 0 < c.sf) (hs : c.sf < -off) :
    Calls Try.prog 20 #[.pointer (some ⟨b, 0, none⟩), .int .i64 off, .int .i64 span] w fun e w' =>
      e = .returned (.tuple #[.agg #[.int .i64 (act c ⟨I, n, last⟩ off span).1, .int .i64 (act c ⟨I, n, last⟩ off span).2.1], .int .i64 (act c ⟨I, n, last⟩ off span).2.2]) ∧ w'.heap[b]? = some (rvo c (nxt c ⟨I, n, last⟩ off span)) ∧ Upd w w' b := by
  have hzz := hz
  have hneg : wrap64 (-off) = -off := w64_id (by unfold inS at h; omega) (by unfold inS at h; omega)
  have hz' : off < 0 := hz
  have ht' := ht
  have hlt := blk_lt hb
  have hli : wrap64 (-c.li) = -c.li ∧ -c.li ≤ c.li := by unfold okC at hc; exact ⟨w64_id (by omega) (by omega), by omega⟩
  have hwl := hli.1
  have HLI := Aside0.mk hli.2
  have hRat := Aside0.mk (fun W => ratio_ref off span W h)
  have B1 := blk_alloc hb (.cells #[.int .i64 0, .int .i64 0] 31)
  have R1 := blk_new w (.cells #[.int .i64 0, .int .i64 0] 31)
  have B0 : (w.setCell ⟨b, 6, none⟩ (.int .i64 (wrap64 (n + 1)))).heap[b]? = some (rvo c ⟨I, wrap64 (n + 1), last⟩) := blk_put hb 6 _ rfl
  have B2 := blk_alloc B0 (.cells #[.int .i64 0, .int .i64 0] 31)
  have U2 : Upd w ((w.setCell ⟨b, 6, none⟩ (.int .i64 (wrap64 (n + 1)))).alloc (.cells #[.int .i64 0, .int .i64 0] 31)) b := ((Upd.refl w b).set 6 _).alloc _
  have R2 := blk_new (w.setCell ⟨b, 6, none⟩ (.int .i64 (wrap64 (n + 1)))) (.cells #[.int .i64 0, .int .i64 0] 31)
  have hsz : (w.setCell ⟨b, 6, none⟩ (.int .i64 (wrap64 (n + 1)))).heap.size = w.heap.size := by simp [World.setCell]
  rw [hsz] at R2
  clear hsz
  obtain ⟨c0, c1, c2, c3, c4, c5, c6, c7⟩ := cs8 B1
  obtain ⟨f0, f1, f2, f3, f4, f5, f6, f7⟩ := fs8 B1
  have hne : b ≠ w.heap.size := by omega
  have e1' : ¬ (off < -1125899906842624) := by unfold inS at h; omega
  have e2' : ¬ (1125899906842624 < off) := by unfold inS at h; omega
  have e3' : ¬ (span < 1) := by unfold inS at h; omega
  have e4' : ¬ (1125899906842624 < span) := by unfold inS at h; omega
  have HB := Aside0.mk B2
  have HR := Aside0.mk R2
  have HU := Aside0.mk U2
  have HH := Aside0.mk h
  clear B2 R2 U2 B0 h hc hli
  go_enter Try.func20, Try.ntmps20
  go_wp2_with (first
    | (go_at_call 28
       with_reducible refine Calls.mono (hRat.out _) ?_
       rintro e w' ⟨rfl, ⟨nd, rfl⟩⟩
       have B3 := blk_drewN HB.out nd
       have R3 := blk_drewN HR.out nd
       have U3 := HU.out.drewN nd
       generalize ((w.setCell ⟨b, 6, none⟩ (.int .i64 (wrap64 (n + 1)))).alloc (.cells #[.int .i64 0, .int .i64 0] 31)).drewN nd = w3 at *))
  all_goals first
    | (have hS : stepsS c.sf c.sl n off := by
         unfold stepsS thrS
         rw [abs_mx]
         first
           | exact steps_ref1 (by assumption) (by assumption) (by assumption) (by assumption)
           | exact steps_ref2 (by assumption) (by assumption) (by assumption) (by assumption)
           | exact steps_ref3 (by assumption) (by assumption) (by assumption) (by assumption)
           | exact steps_ref4 (by assumption) (by assumption) (by assumption) (by assumption)
       have hsz7 : (w.setCell ⟨b, 6, none⟩ (.int .i64 (wrap64 (n + 1)))).heap.size = w.heap.size := by simp [World.setCell]
       have R7 := blk_new (w.setCell ⟨b, 6, none⟩ (.int .i64 (wrap64 (n + 1)))) (.cells #[.int .i64 2, .int .i64 off] 31)
       rw [hsz7] at R7
       have B0 : (w.setCell ⟨b, 6, none⟩ (.int .i64 (wrap64 (n + 1)))).heap[b]? = some (rvo c ⟨I, wrap64 (n + 1), last⟩) := blk_put hb 6 _ rfl
       have B7 := blk_alloc B0 (.cells #[.int .i64 2, .int .i64 off] 31)
       refine bodyPost_ret (results_ct rfl _ _ w.heap.size _ _ _ _ rfl R7 Try.underlying31 rfl (by kernel_rfl)) rfl ?_
       have U7 := ((Upd.refl w b).set 6 (.int .i64 (wrap64 (n + 1)))).alloc (.cells #[.int .i64 2, .int .i64 off] 31)
       unfold act nxt
       rw [if_pos HH.out, if_pos hS, if_pos HH.out, if_pos hS]
       exact ⟨rfl, B7, U7⟩)

set_option maxRecDepth 8000 in
set_option maxHeartbeats 8000000 in
theorem rsample_P11 (b : Nat) (c : Conf) (I n last : Int) (off span : Int) (w : World) (hb : w.heap[b]? = some (rvo c ⟨I, n, last⟩)) (hc : okC c.kp c.ki c.li c.sf c.sl) (h : inS off span) (hn : (n == 0) = true) (hz : off < 0) (ht : 0 < c.sf) (hs : ¬ c.sf < -off) :
    Calls Try.prog 20 #[.pointer (some ⟨b, 0, none⟩), .int .i64 off, .int .i64 span] w fun e w' =>
      e = .returned (.tuple #[.agg #[.int .i64 (act c ⟨I, n, last⟩ off span).1, .int .i64 (act c ⟨I, n, last⟩ off span).2.1], .int .i64 (act c ⟨I, n, last⟩ off span).2.2]) ∧ w'.heap[b]? = some (rvo c (nxt c ⟨I, n, last⟩ off span)) ∧ Upd w w' b := by
  have hzz := hz
  have hneg : wrap64 (-off) = -off := w64_id (by unfold inS at h; omega) (by unfold inS at h; omega)
  have hz' : off < 0 := hz
  have ht' := ht
  have hs' : -off ≤ c.sf := by omega
  have hlt := blk_lt hb
  have hli : wrap64 (-c.li) = -c.li ∧ -c.li ≤ c.li := by unfold okC at hc; exact ⟨w64_id (by omega) (by omega), by omega⟩
  have hwl := hli.1
  have HLI := Aside0.mk hli.2
  have hRat := Aside0.mk (fun W => ratio_ref off span W h)
  have B1 := blk_alloc hb (.cells #[.int .i64 0, .int .i64 0] 31)
  have R1 := blk_new w (.cells #[.int .i64 0, .int .i64 0] 31)
  have B0 : (w.setCell ⟨b, 6, none⟩ (.int .i64 (wrap64 (n + 1)))).heap[b]? = some (rvo c ⟨I, wrap64 (n + 1), last⟩) := blk_put hb 6 _ rfl
  have B2 := blk_alloc B0 (.cells #[.int .i64 0, .int .i64 0] 31)
  have U2 : Upd w ((w.setCell ⟨b, 6, none⟩ (.int .i64 (wrap64 (n + 1)))).alloc (.cells #[.int .i64 0, .int .i64 0] 31)) b := ((Upd.refl w b).set 6 _).alloc _
  have R2 := blk_new (w.setCell ⟨b, 6, none⟩ (.int .i64 (wrap64 (n + 1)))) (.cells #[.int .i64 0, .int .i64 0] 31)
  have hsz : (w.setCell ⟨b, 6, none⟩ (.int .i64 (wrap64 (n + 1)))).heap.size = w.heap.size := by simp [World.setCell]
  rw [hsz] at R2
  clear hsz
  obtain ⟨c0, c1, c2, c3, c4, c5, c6, c7⟩ := cs8 B1
  obtain ⟨f0, f1, f2, f3, f4, f5, f6, f7⟩ := fs8 B1
  have hne : b ≠ w.heap.size := by omega
  have e1' : ¬ (off < -1125899906842624) := by unfold inS at h; omega
  have e2' : ¬ (1125899906842624 < off) := by unfold inS at h; omega
  have e3' : ¬ (span < 1) := by unfold inS at h; omega
  have e4' : ¬ (1125899906842624 < span) := by unfold inS at h; omega
  have HB := Aside0.mk B2
  have HR := Aside0.mk R2
  have HU := Aside0.mk U2
  have HH := Aside0.mk h
  clear B2 R2 U2 B0 h hc hli
  go_enter Try.func20, Try.ntmps20
  go_wp2_with (first
    | (go_at_call 28
       with_reducible refine Calls.mono (hRat.out _) ?_
       rintro e w' ⟨rfl, ⟨nd, rfl⟩⟩
       have B3 := blk_drewN HB.out nd
       have R3 := blk_drewN HR.out nd
       have U3 := HU.out.drewN nd
       generalize ((w.setCell ⟨b, 6, none⟩ (.int .i64 (wrap64 (n + 1)))).alloc (.cells #[.int .i64 0, .int .i64 0] 31)).drewN nd = w3 at *))
  all_goals
       have hS : ¬ stepsS c.sf c.sl n off := by
         unfold stepsS thrS
         rw [abs_mx]
         first
           | exact rest_ref5 (by assumption) (by assumption)
           | exact rest_ref6 (by assumption) (by assumption)
           | exact rest_ref1 (by assumption) (by assumption) (by assumption)
           | exact rest_ref2 (by assumption) (by assumption) (by assumption)
           | exact rest_ref3 (by assumption) (by assumption) (by assumption)
           | exact rest_ref4 (by assumption) (by assumption) (by assumption)
       obtain ⟨c0, c1, c2, c3, c4, c5, c6, c7⟩ := cs8 B3
       refine start_ (n := 28) (S := (fun w' => w'.cell? ⟨b, 5, none⟩ = some (.int .i64 I) ∧ w'.cell? ⟨b, 1, none⟩ = some (.int .i64 c.ki) ∧ w'.cell? ⟨b, 2, none⟩ = some (.int .i64 c.li))) (ds := [27]) #[false, false, false, false, false, false, false, false, false, false, false, false, false, false, false, false, false, false, false, false, false, false, false, false, false, false, false, false] (by kernel_rfl) rfl rfl (⟨(cs8 (blk_drewN B3 1)).2.2.2.2.2.1, (cs8 (blk_drewN B3 1)).2.1, (cs8 (blk_drewN B3 1)).2.2.1⟩) (fun hHeld => ?_); refine with_tabW r15.tab r15.bits (fun HT_ HW_ => ?_)
       have C0 := blk_drewN B3 1
       change wpAnyLast _ _ _ _ _ _ _ _ _ (w3.drewN 1)
       refine pure_ (i := 0) (N := some 69) (v := ?_) (a' := ?_) #[true, false, false, false, false, false, false, false, false, false, false, false, false, false, false, false, false, false, false, false, false, false, false, false, false, false, false, false] rfl rfl (any_of HT_.out (by kernel_rfl)) (fun _ _ _ h => h) (Or.inl ⟨by rfl, ?_⟩) ?_ ?_
       rotate_left
       · intro w'
         go_simp
         with_reducible rfl
       rotate_left
       · simp only [Act.put, z1, z2, z3, i64_w, i32_w]
         rfl
       refine pure_ (i := 1) (N := some 70) (v := ?_) (a' := ?_) #[true, true, false, false, false, false, false, false, false, false, false, false, false, false, false, false, false, false, false, false, false, false, false, false, false, false, false, false] rfl rfl (any_of HT_.out (by kernel_rfl)) (fun _ _ _ h => h) (Or.inl ⟨by rfl, ?_⟩) ?_ ?_
       rotate_left
       · intro w'
         go_simp
         with_reducible rfl
       rotate_left
       · simp only [Act.put, z1, z2, z3, i64_w, i32_w]
         rfl
       refine pure_ (i := 2) (N := some 71) (v := ?_) (a' := ?_) #[true, true, true, false, false, false, false, false, false, false, false, false, false, false, false, false, false, false, false, false, false, false, false, false, false, false, false, false] rfl rfl (any_of HT_.out (by kernel_rfl)) (fun _ _ _ h => h) (Or.inl ⟨by rfl, ?_⟩) ?_ ?_
       rotate_left
       · intro w'
         go_simp
         with_reducible rfl
       rotate_left
       · simp only [Act.put, z1, z2, z3, i64_w, i32_w]
         rfl
       refine pure_ (i := 3) (N := some 72) (v := ?_) (a' := ?_) #[true, true, true, true, false, false, false, false, false, false, false, false, false, false, false, false, false, false, false, false, false, false, false, false, false, false, false, false] rfl rfl (any_of HT_.out (by kernel_rfl)) (fun _ _ _ h => h) (Or.inl ⟨by rfl, ?_⟩) ?_ ?_
       rotate_left
       · intro w'
         go_simp
         with_reducible rfl
       rotate_left
       · simp only [Act.put, z1, z2, z3, i64_w, i32_w]
         rfl
       refine take_ (i := 4) (N := some 73) (v := ?_) (a' := ?_) #[true, true, true, true, true, false, false, false, false, false, false, false, false, false, false, false, false, false, false, false, false, false, false, false, false, false, false, false] rfl rfl (take_ofW HT_.out HW_.out (by kernel_rfl)) (fun _ _ _ h => h) (Or.inl ⟨by rfl, ?_⟩) hHeld ?_ ?_
       rotate_left
       · rintro w' ⟨s0, s1, s2⟩
         go_simp
         with_reducible rfl
       rotate_left
       · simp only [Act.put, z1, z2, z3, i64_w, i32_w]
         rfl
       refine pure_ (i := 5) (N := some 74) (v := ?_) (a' := ?_) #[true, true, true, true, true, true, false, false, false, false, false, false, false, false, false, false, false, false, false, false, false, false, false, false, false, false, false, false] rfl rfl (any_of HT_.out (by kernel_rfl)) (fun _ _ _ h => h) (Or.inl ⟨by rfl, ?_⟩) ?_ ?_
       rotate_left
       · intro w'
         go_simp
         with_reducible rfl
       rotate_left
       · simp only [Act.put, z1, z2, z3, i64_w, i32_w]
         rfl
       refine pure_ (i := 6) (N := some 75) (v := ?_) (a' := ?_) #[true, true, true, true, true, true, true, false, false, false, false, false, false, false, false, false, false, false, false, false, false, false, false, false, false, false, false, false] rfl rfl (any_of HT_.out (by kernel_rfl)) (fun _ _ _ h => h) (Or.inl ⟨by rfl, ?_⟩) ?_ ?_
       rotate_left
       · intro w'
         go_simp
         with_reducible rfl
       rotate_left
       · simp only [Act.put, z1, z2, z3, i64_w, i32_w]
         rfl
       refine pure_ (i := 7) (N := some 76) (v := ?_) (a' := ?_) #[true, true, true, true, true, true, true, true, false, false, false, false, false, false, false, false, false, false, false, false, false, false, false, false, false, false, false, false] rfl rfl (any_of HT_.out (by kernel_rfl)) (fun _ _ _ h => h) (Or.inl ⟨by rfl, ?_⟩) ?_ ?_
       rotate_left
       · intro w'
         go_simp
         with_reducible rfl
       rotate_left
       · simp only [Act.put, z1, z2, z3, i64_w, i32_w]
         rfl
       refine pure_ (i := 8) (N := some 77) (v := ?_) (a' := ?_) #[true, true, true, true, true, true, true, true, true, false, false, false, false, false, false, false, false, false, false, false, false, false, false, false, false, false, false, false] rfl rfl (any_of HT_.out (by kernel_rfl)) (fun _ _ _ h => h) (Or.inl ⟨by rfl, ?_⟩) ?_ ?_
       rotate_left
       · intro w'
         go_simp
         with_reducible rfl
       rotate_left
       · simp only [Act.put, z1, z2, z3, i64_w, i32_w]
         rfl
       refine take_ (i := 9) (N := some 78) (v := ?_) (a' := ?_) #[true, true, true, true, true, true, true, true, true, true, false, false, false, false, false, false, false, false, false, false, false, false, false, false, false, false, false, false] rfl rfl (take_ofW HT_.out HW_.out (by kernel_rfl)) (fun _ _ _ h => h) (Or.inl ⟨by rfl, ?_⟩) hHeld ?_ ?_
       rotate_left
       · rintro w' ⟨s0, s1, s2⟩
         go_simp
         with_reducible rfl
       rotate_left
       · simp only [Act.put, z1, z2, z3, i64_w, i32_w]
         rfl
       refine pure_ (i := 10) (N := some 79) (v := ?_) (a' := ?_) #[true, true, true, true, true, true, true, true, true, true, true, false, false, false, false, false, false, false, false, false, false, false, false, false, false, false, false, false] rfl rfl (any_of HT_.out (by kernel_rfl)) (fun _ _ _ h => h) (Or.inl ⟨by rfl, ?_⟩) ?_ ?_
       rotate_left
       · intro w'
         go_simp
         with_reducible rfl
       rotate_left
       · simp only [Act.put, z1, z2, z3, i64_w, i32_w]
         rfl
       refine pure_ (i := 13) (N := some 82) (v := ?_) (a' := ?_) #[true, true, true, true, true, true, true, true, true, true, true, false, false, true, false, false, false, false, false, false, false, false, false, false, false, false, false, false] rfl rfl (any_of HT_.out (by kernel_rfl)) (fun _ _ _ h => h) (Or.inl ⟨by rfl, ?_⟩) ?_ ?_
       rotate_left
       · intro w'
         go_simp
         with_reducible rfl
       rotate_left
       · simp only [Act.put, z1, z2, z3, i64_w, i32_w]
         rfl
       refine pure_ (i := 14) (N := some 83) (v := ?_) (a' := ?_) #[true, true, true, true, true, true, true, true, true, true, true, false, false, true, true, false, false, false, false, false, false, false, false, false, false, false, false, false] rfl rfl (any_of HT_.out (by kernel_rfl)) (fun _ _ _ h => h) (Or.inl ⟨by rfl, ?_⟩) ?_ ?_
       rotate_left
       · intro w'
         go_simp
         with_reducible rfl
       rotate_left
       · simp only [Act.put, z1, z2, z3, i64_w, i32_w]
         rfl
       refine pure_ (i := 15) (N := some 84) (v := ?_) (a' := ?_) #[true, true, true, true, true, true, true, true, true, true, true, false, false, true, true, true, false, false, false, false, false, false, false, false, false, false, false, false] rfl rfl (any_of HT_.out (by kernel_rfl)) (fun _ _ _ h => h) (Or.inl ⟨by rfl, ?_⟩) ?_ ?_
       rotate_left
       · intro w'
         go_simp
         with_reducible rfl
       rotate_left
       · simp only [Act.put, z1, z2, z3, i64_w, i32_w]
         rfl
       refine pure_ (i := 16) (N := some 85) (v := ?_) (a' := ?_) #[true, true, true, true, true, true, true, true, true, true, true, false, false, true, true, true, true, false, false, false, false, false, false, false, false, false, false, false] rfl rfl (any_of HT_.out (by kernel_rfl)) (fun _ _ _ h => h) (Or.inl ⟨by rfl, ?_⟩) ?_ ?_
       rotate_left
       · intro w'
         go_simp
         with_reducible rfl
       rotate_left
       · simp only [Act.put, z1, z2, z3, i64_w, i32_w]
         rfl
       refine take_ (i := 17) (N := some 86) (v := ?_) (a' := ?_) #[true, true, true, true, true, true, true, true, true, true, true, false, false, true, true, true, true, true, false, false, false, false, false, false, false, false, false, false] rfl rfl (take_ofW HT_.out HW_.out (by kernel_rfl)) (fun _ _ _ h => h) (Or.inl ⟨by rfl, ?_⟩) hHeld ?_ ?_
       rotate_left
       · rintro w' ⟨s0, s1, s2⟩
         go_simp
         with_reducible rfl
       rotate_left
       · simp only [Act.put, z1, z2, z3, i64_w, i32_w]
         rfl
       refine pure_ (i := 18) (N := some 87) (v := ?_) (a' := ?_) #[true, true, true, true, true, true, true, true, true, true, true, false, false, true, true, true, true, true, true, false, false, false, false, false, false, false, false, false] rfl rfl (any_of HT_.out (by kernel_rfl)) (fun _ _ _ h => h) (Or.inl ⟨by rfl, ?_⟩) ?_ ?_
       rotate_left
       · intro w'
         go_simp
         with_reducible rfl
       rotate_left
       · simp only [Act.put, z1, z2, z3, i64_w, i32_w]
         rfl
       refine pure_ (i := 19) (N := some 88) (v := ?_) (a' := ?_) #[true, true, true, true, true, true, true, true, true, true, true, false, false, true, true, true, true, true, true, true, false, false, false, false, false, false, false, false] rfl rfl (any_of HT_.out (by kernel_rfl)) (fun _ _ _ h => h) (Or.inl ⟨by rfl, ?_⟩) ?_ ?_
       rotate_left
       · intro w'
         go_simp
         with_reducible rfl
       rotate_left
       · simp only [Act.put, z1, z2, z3, i64_w, i32_w]
         rfl
       refine pure_ (i := 20) (N := some 89) (v := ?_) (a' := ?_) #[true, true, true, true, true, true, true, true, true, true, true, false, false, true, true, true, true, true, true, true, true, false, false, false, false, false, false, false] rfl rfl (any_of HT_.out (by kernel_rfl)) (fun _ _ _ h => h) (Or.inl ⟨by rfl, ?_⟩) ?_ ?_
       rotate_left
       · intro w'
         go_simp
         with_reducible rfl
       rotate_left
       · simp only [Act.put, z1, z2, z3, i64_w, i32_w]
         rfl
       refine pure_ (i := 21) (N := some 90) (v := ?_) (a' := ?_) #[true, true, true, true, true, true, true, true, true, true, true, false, false, true, true, true, true, true, true, true, true, true, false, false, false, false, false, false] rfl rfl (any_of HT_.out (by kernel_rfl)) (fun _ _ _ h => h) (Or.inl ⟨by rfl, ?_⟩) ?_ ?_
       rotate_left
       · intro w'
         go_simp
         with_reducible rfl
       rotate_left
       · simp only [Act.put, z1, z2, z3, i64_w, i32_w]
         rfl
       refine pure_ (i := 22) (N := some 91) (v := ?_) (a' := ?_) #[true, true, true, true, true, true, true, true, true, true, true, false, false, true, true, true, true, true, true, true, true, true, true, false, false, false, false, false] rfl rfl (any_of HT_.out (by kernel_rfl)) (fun _ _ _ h => h) (Or.inl ⟨by rfl, ?_⟩) ?_ ?_
       rotate_left
       · intro w'
         go_simp
         with_reducible rfl
       rotate_left
       · simp only [Act.put, z1, z2, z3, i64_w, i32_w]
         rfl
       refine take_ (i := 23) (N := some 92) (v := ?_) (a' := ?_) #[true, true, true, true, true, true, true, true, true, true, true, false, false, true, true, true, true, true, true, true, true, true, true, true, false, false, false, false] rfl rfl (take_ofW HT_.out HW_.out (by kernel_rfl)) (fun _ _ _ h => h) (Or.inl ⟨by rfl, ?_⟩) hHeld ?_ ?_
       rotate_left
       · rintro w' ⟨s0, s1, s2⟩
         go_simp
         with_reducible rfl
       rotate_left
       · simp only [Act.put, z1, z2, z3, i64_w, i32_w]
         rfl
       refine one_ (i := 11) (N := some 80) #[true, true, true, true, true, true, true, true, true, true, true, true, false, true, true, true, true, true, true, true, true, true, true, true, false, false, false, false] rfl rfl (one_of HT_.out (by kernel_rfl)) (by decide) (fun K hK => ?_)
       refine goes_ Try.func30 (by kernel_rfl) rfl #[.int .i64 c.ki, .int .i64 (ratioS off span)] (by rfl) rfl rfl sl_ ?_
       with_reducible refine Calls.mono (part_ref _ _ _) ?_
       rintro e w' ⟨rfl, ⟨nd1, rfl⟩⟩
       have C1 := blk_drewN C0 nd1
       refine ⟨_, rfl, ?_⟩
       refine hK.out _ _ (⟨(cs8 C1).2.2.2.2.2.1, (cs8 C1).2.1, (cs8 C1).2.2.1⟩) (fun hHeld => ?_)
       clear hK K
       refine norm_ (a' := ?_) ?_ ?_
       rotate_left
       · show Act.put _ (some 80) _ = _
         simp only [Act.put, z1, z2, z3, i64_w, i32_w]
         rfl
       refine pure_ (i := 12) (N := some 81) (v := ?_) (a' := ?_) #[true, true, true, true, true, true, true, true, true, true, true, true, true, true, true, true, true, true, true, true, true, true, true, true, false, false, false, false] rfl rfl (any_of HT_.out (by kernel_rfl)) (fun _ _ _ h => h) (Or.inl ⟨by rfl, ?_⟩) ?_ ?_
       rotate_left
       · intro w'
         go_simp
         with_reducible rfl
       rotate_left
       · simp only [Act.put, z1, z2, z3, i64_w, i32_w]
         rfl
       refine one_ (i := 24) (N := some 93) #[true, true, true, true, true, true, true, true, true, true, true, true, true, true, true, true, true, true, true, true, true, true, true, true, true, false, false, false] rfl rfl (one_of HT_.out (by kernel_rfl)) (by decide) (fun K hK => ?_)
       refine goes_ Try.func29 (by kernel_rfl) rfl #[.int .i64 (wrap64 (I + wrap64 (c.ki * (ratioS off span)) / 65536)), .int .i64 (wrap64 (-c.li)), .int .i64 c.li] (by rfl) rfl rfl sl_ ?_
       with_reducible refine Calls.mono (clamp_ref _ _ _ _ (by rw [hwl]; exact HLI.out)) ?_
       rintro e w' ⟨rfl, ⟨nd2, rfl⟩⟩
       have C2 := blk_drewN C1 nd2
       refine ⟨_, rfl, ?_⟩
       refine hK.out _ _ (⟨(cs8 C2).2.2.2.2.2.1, (cs8 C2).2.1, (cs8 C2).2.2.1⟩) (fun hHeld => ?_)
       clear hK K
       refine norm_ (a' := ?_) ?_ ?_
       rotate_left
       · show Act.put _ (some 93) _ = _
         simp only [Act.put, z1, z2, z3, i64_w, i32_w]
         rfl
       refine pure_ (i := 25) (N := some 94) (v := ?_) (a' := ?_) #[true, true, true, true, true, true, true, true, true, true, true, true, true, true, true, true, true, true, true, true, true, true, true, true, true, true, false, false] rfl rfl (any_of HT_.out (by kernel_rfl)) (fun _ _ _ h => h) (Or.inl ⟨by rfl, ?_⟩) ?_ ?_
       rotate_left
       · intro w'
         go_simp
         with_reducible rfl
       rotate_left
       · simp only [Act.put, z1, z2, z3, i64_w, i32_w]
         rfl
       refine pure_ (i := 26) (N := some 95) (v := ?_) (a' := ?_) #[true, true, true, true, true, true, true, true, true, true, true, true, true, true, true, true, true, true, true, true, true, true, true, true, true, true, true, false] rfl rfl (any_of HT_.out (by kernel_rfl)) (fun _ _ _ h => h) (Or.inl ⟨by rfl, ?_⟩) ?_ ?_
       rotate_left
       · intro w'
         go_simp
         with_reducible rfl
       rotate_left
       · simp only [Act.put, z1, z2, z3, i64_w, i32_w]
         rfl
       refine last_ (i := 27) (N := none) #[true, true, true, true, true, true, true, true, true, true, true, true, true, true, true, true, true, true, true, true, true, true, true, true, true, true, true, true] rfl rfl (one_of HT_.out (by kernel_rfl)) (by decide) (fun K hK => ?_)
       have hce := (cs8 B3).2.2.2.2.2.1
       have hfe := blk_frozen B3 5
       refine skip_ (w1 := ?_) (by rfl) rfl ?_ ?_
       rotate_left
       · go_simp
         rfl
       refine hK.out _ _ ?_
       clear hK K
       refine done_ (done_of HT_.out (by kernel_rfl)) ?_
       have eI : mn (mx (wrap64 (I + wrap64 (c.ki * ratioS off span) / 65536)) (-c.li)) c.li = intS c.ki c.li I (ratioS off span) := by unfold intS; rw [hwl]
       rw [eI]
       clear eI
       generalize hI1 : intS c.ki c.li I (ratioS off span) = I1 at *
       have B4 : ((w3.drewN (1 + nd1 + nd2)).setCell ⟨b, 5, none⟩ (.int .i64 I1)).heap[b]? = some (rvo c ⟨I1, wrap64 (n + 1), last⟩) := blk_put (blk_drewN B3 _) 5 _ rfl
       have R4 := blk_far (blk_drewN R3 (1 + nd1 + nd2)) (p := ⟨b, 5, none⟩) (by simpa using Ne.symm hne) (.int .i64 I1)
       have U4 := (U3.drewN (1 + nd1 + nd2)).set 5 (.int .i64 I1)
       generalize (w3.drewN (1 + nd1 + nd2)).setCell ⟨b, 5, none⟩ (.int .i64 I1) = w5 at *
       clear c0 c1 c2 c3 c4 c5 c6 c7 f0 f1 f2 f3 f4 f5 f6 f7 hce hfe C0 C1 C2 hHeld
       go_wp2_with fail
       refine start_ (n := 28) (S := (fun w' => w'.cell? ⟨b, 0, none⟩ = some (.int .i64 c.kp) ∧ w'.cell? ⟨b, 5, none⟩ = some (.int .i64 I1) ∧ w'.cell? ⟨b, 2, none⟩ = some (.int .i64 c.li))) (ds := [27]) #[false, false, false, false, false, false, false, false, false, false, false, false, false, false, false, false, false, false, false, false, false, false, false, false, false, false, false, false] (by kernel_rfl) rfl rfl (⟨(cs8 (blk_drewN B4 1)).1, (cs8 (blk_drewN B4 1)).2.2.2.2.2.1, (cs8 (blk_drewN B4 1)).2.2.1⟩) (fun hHeld => ?_); refine with_tabW r16.tab r16.bits (fun HT_ HW_ => ?_)
       have D0 := blk_drewN B4 1
       change wpAnyLast _ _ _ _ _ _ _ _ _ (w5.drewN 1)
       refine pure_ (i := 0) (N := some 96) (v := ?_) (a' := ?_) #[true, false, false, false, false, false, false, false, false, false, false, false, false, false, false, false, false, false, false, false, false, false, false, false, false, false, false, false] rfl rfl (any_of HT_.out (by kernel_rfl)) (fun _ _ _ h => h) (Or.inl ⟨by rfl, ?_⟩) ?_ ?_
       rotate_left
       · intro w'
         go_simp
         with_reducible rfl
       rotate_left
       · simp only [Act.put, z1, z2, z3, i64_w, i32_w]
         rfl
       refine pure_ (i := 1) (N := some 97) (v := ?_) (a' := ?_) #[true, true, false, false, false, false, false, false, false, false, false, false, false, false, false, false, false, false, false, false, false, false, false, false, false, false, false, false] rfl rfl (any_of HT_.out (by kernel_rfl)) (fun _ _ _ h => h) (Or.inl ⟨by rfl, ?_⟩) ?_ ?_
       rotate_left
       · intro w'
         go_simp
         with_reducible rfl
       rotate_left
       · simp only [Act.put, z1, z2, z3, i64_w, i32_w]
         rfl
       refine pure_ (i := 2) (N := some 98) (v := ?_) (a' := ?_) #[true, true, true, false, false, false, false, false, false, false, false, false, false, false, false, false, false, false, false, false, false, false, false, false, false, false, false, false] rfl rfl (any_of HT_.out (by kernel_rfl)) (fun _ _ _ h => h) (Or.inl ⟨by rfl, ?_⟩) ?_ ?_
       rotate_left
       · intro w'
         go_simp
         with_reducible rfl
       rotate_left
       · simp only [Act.put, z1, z2, z3, i64_w, i32_w]
         rfl
       refine pure_ (i := 3) (N := some 99) (v := ?_) (a' := ?_) #[true, true, true, true, false, false, false, false, false, false, false, false, false, false, false, false, false, false, false, false, false, false, false, false, false, false, false, false] rfl rfl (any_of HT_.out (by kernel_rfl)) (fun _ _ _ h => h) (Or.inl ⟨by rfl, ?_⟩) ?_ ?_
       rotate_left
       · intro w'
         go_simp
         with_reducible rfl
       rotate_left
       · simp only [Act.put, z1, z2, z3, i64_w, i32_w]
         rfl
       refine pure_ (i := 4) (N := some 100) (v := ?_) (a' := ?_) #[true, true, true, true, true, false, false, false, false, false, false, false, false, false, false, false, false, false, false, false, false, false, false, false, false, false, false, false] rfl rfl (any_of HT_.out (by kernel_rfl)) (fun _ _ _ h => h) (Or.inl ⟨by rfl, ?_⟩) ?_ ?_
       rotate_left
       · intro w'
         go_simp
         with_reducible rfl
       rotate_left
       · simp only [Act.put, z1, z2, z3, i64_w, i32_w]
         rfl
       refine take_ (i := 5) (N := some 101) (v := ?_) (a' := ?_) #[true, true, true, true, true, true, false, false, false, false, false, false, false, false, false, false, false, false, false, false, false, false, false, false, false, false, false, false] rfl rfl (take_ofW HT_.out HW_.out (by kernel_rfl)) (fun _ _ _ h => h) (Or.inl ⟨by rfl, ?_⟩) hHeld ?_ ?_
       rotate_left
       · rintro w' ⟨s0, s1, s2⟩
         go_simp
         with_reducible rfl
       rotate_left
       · simp only [Act.put, z1, z2, z3, i64_w, i32_w]
         rfl
       refine pure_ (i := 6) (N := some 102) (v := ?_) (a' := ?_) #[true, true, true, true, true, true, true, false, false, false, false, false, false, false, false, false, false, false, false, false, false, false, false, false, false, false, false, false] rfl rfl (any_of HT_.out (by kernel_rfl)) (fun _ _ _ h => h) (Or.inl ⟨by rfl, ?_⟩) ?_ ?_
       rotate_left
       · intro w'
         go_simp
         with_reducible rfl
       rotate_left
       · simp only [Act.put, z1, z2, z3, i64_w, i32_w]
         rfl
       refine pure_ (i := 8) (N := some 104) (v := ?_) (a' := ?_) #[true, true, true, true, true, true, true, false, true, false, false, false, false, false, false, false, false, false, false, false, false, false, false, false, false, false, false, false] rfl rfl (any_of HT_.out (by kernel_rfl)) (fun _ _ _ h => h) (Or.inl ⟨by rfl, ?_⟩) ?_ ?_
       rotate_left
       · intro w'
         go_simp
         with_reducible rfl
       rotate_left
       · simp only [Act.put, z1, z2, z3, i64_w, i32_w]
         rfl
       refine pure_ (i := 9) (N := some 105) (v := ?_) (a' := ?_) #[true, true, true, true, true, true, true, false, true, true, false, false, false, false, false, false, false, false, false, false, false, false, false, false, false, false, false, false] rfl rfl (any_of HT_.out (by kernel_rfl)) (fun _ _ _ h => h) (Or.inl ⟨by rfl, ?_⟩) ?_ ?_
       rotate_left
       · intro w'
         go_simp
         with_reducible rfl
       rotate_left
       · simp only [Act.put, z1, z2, z3, i64_w, i32_w]
         rfl
       refine pure_ (i := 10) (N := some 106) (v := ?_) (a' := ?_) #[true, true, true, true, true, true, true, false, true, true, true, false, false, false, false, false, false, false, false, false, false, false, false, false, false, false, false, false] rfl rfl (any_of HT_.out (by kernel_rfl)) (fun _ _ _ h => h) (Or.inl ⟨by rfl, ?_⟩) ?_ ?_
       rotate_left
       · intro w'
         go_simp
         with_reducible rfl
       rotate_left
       · simp only [Act.put, z1, z2, z3, i64_w, i32_w]
         rfl
       refine take_ (i := 11) (N := some 107) (v := ?_) (a' := ?_) #[true, true, true, true, true, true, true, false, true, true, true, true, false, false, false, false, false, false, false, false, false, false, false, false, false, false, false, false] rfl rfl (take_ofW HT_.out HW_.out (by kernel_rfl)) (fun _ _ _ h => h) (Or.inl ⟨by rfl, ?_⟩) hHeld ?_ ?_
       rotate_left
       · rintro w' ⟨s0, s1, s2⟩
         go_simp
         with_reducible rfl
       rotate_left
       · simp only [Act.put, z1, z2, z3, i64_w, i32_w]
         rfl
       refine pure_ (i := 13) (N := some 109) (v := ?_) (a' := ?_) #[true, true, true, true, true, true, true, false, true, true, true, true, false, true, false, false, false, false, false, false, false, false, false, false, false, false, false, false] rfl rfl (any_of HT_.out (by kernel_rfl)) (fun _ _ _ h => h) (Or.inl ⟨by rfl, ?_⟩) ?_ ?_
       rotate_left
       · intro w'
         go_simp
         with_reducible rfl
       rotate_left
       · simp only [Act.put, z1, z2, z3, i64_w, i32_w]
         rfl
       refine pure_ (i := 14) (N := some 110) (v := ?_) (a' := ?_) #[true, true, true, true, true, true, true, false, true, true, true, true, false, true, true, false, false, false, false, false, false, false, false, false, false, false, false, false] rfl rfl (any_of HT_.out (by kernel_rfl)) (fun _ _ _ h => h) (Or.inl ⟨by rfl, ?_⟩) ?_ ?_
       rotate_left
       · intro w'
         go_simp
         with_reducible rfl
       rotate_left
       · simp only [Act.put, z1, z2, z3, i64_w, i32_w]
         rfl
       refine pure_ (i := 15) (N := some 111) (v := ?_) (a' := ?_) #[true, true, true, true, true, true, true, false, true, true, true, true, false, true, true, true, false, false, false, false, false, false, false, false, false, false, false, false] rfl rfl (any_of HT_.out (by kernel_rfl)) (fun _ _ _ h => h) (Or.inl ⟨by rfl, ?_⟩) ?_ ?_
       rotate_left
       · intro w'
         go_simp
         with_reducible rfl
       rotate_left
       · simp only [Act.put, z1, z2, z3, i64_w, i32_w]
         rfl
       refine pure_ (i := 16) (N := some 112) (v := ?_) (a' := ?_) #[true, true, true, true, true, true, true, false, true, true, true, true, false, true, true, true, true, false, false, false, false, false, false, false, false, false, false, false] rfl rfl (any_of HT_.out (by kernel_rfl)) (fun _ _ _ h => h) (Or.inl ⟨by rfl, ?_⟩) ?_ ?_
       rotate_left
       · intro w'
         go_simp
         with_reducible rfl
       rotate_left
       · simp only [Act.put, z1, z2, z3, i64_w, i32_w]
         rfl
       refine take_ (i := 17) (N := some 113) (v := ?_) (a' := ?_) #[true, true, true, true, true, true, true, false, true, true, true, true, false, true, true, true, true, true, false, false, false, false, false, false, false, false, false, false] rfl rfl (take_ofW HT_.out HW_.out (by kernel_rfl)) (fun _ _ _ h => h) (Or.inl ⟨by rfl, ?_⟩) hHeld ?_ ?_
       rotate_left
       · rintro w' ⟨s0, s1, s2⟩
         go_simp
         with_reducible rfl
       rotate_left
       · simp only [Act.put, z1, z2, z3, i64_w, i32_w]
         rfl
       refine pure_ (i := 18) (N := some 114) (v := ?_) (a' := ?_) #[true, true, true, true, true, true, true, false, true, true, true, true, false, true, true, true, true, true, true, false, false, false, false, false, false, false, false, false] rfl rfl (any_of HT_.out (by kernel_rfl)) (fun _ _ _ h => h) (Or.inl ⟨by rfl, ?_⟩) ?_ ?_
       rotate_left
       · intro w'
         go_simp
         with_reducible rfl
       rotate_left
       · simp only [Act.put, z1, z2, z3, i64_w, i32_w]
         rfl
       refine pure_ (i := 19) (N := some 115) (v := ?_) (a' := ?_) #[true, true, true, true, true, true, true, false, true, true, true, true, false, true, true, true, true, true, true, true, false, false, false, false, false, false, false, false] rfl rfl (any_of HT_.out (by kernel_rfl)) (fun _ _ _ h => h) (Or.inl ⟨by rfl, ?_⟩) ?_ ?_
       rotate_left
       · intro w'
         go_simp
         with_reducible rfl
       rotate_left
       · simp only [Act.put, z1, z2, z3, i64_w, i32_w]
         rfl
       refine pure_ (i := 20) (N := some 116) (v := ?_) (a' := ?_) #[true, true, true, true, true, true, true, false, true, true, true, true, false, true, true, true, true, true, true, true, true, false, false, false, false, false, false, false] rfl rfl (any_of HT_.out (by kernel_rfl)) (fun _ _ _ h => h) (Or.inl ⟨by rfl, ?_⟩) ?_ ?_
       rotate_left
       · intro w'
         go_simp
         with_reducible rfl
       rotate_left
       · simp only [Act.put, z1, z2, z3, i64_w, i32_w]
         rfl
       refine pure_ (i := 21) (N := some 117) (v := ?_) (a' := ?_) #[true, true, true, true, true, true, true, false, true, true, true, true, false, true, true, true, true, true, true, true, true, true, false, false, false, false, false, false] rfl rfl (any_of HT_.out (by kernel_rfl)) (fun _ _ _ h => h) (Or.inl ⟨by rfl, ?_⟩) ?_ ?_
       rotate_left
       · intro w'
         go_simp
         with_reducible rfl
       rotate_left
       · simp only [Act.put, z1, z2, z3, i64_w, i32_w]
         rfl
       refine pure_ (i := 22) (N := some 118) (v := ?_) (a' := ?_) #[true, true, true, true, true, true, true, false, true, true, true, true, false, true, true, true, true, true, true, true, true, true, true, false, false, false, false, false] rfl rfl (any_of HT_.out (by kernel_rfl)) (fun _ _ _ h => h) (Or.inl ⟨by rfl, ?_⟩) ?_ ?_
       rotate_left
       · intro w'
         go_simp
         with_reducible rfl
       rotate_left
       · simp only [Act.put, z1, z2, z3, i64_w, i32_w]
         rfl
       refine take_ (i := 23) (N := some 119) (v := ?_) (a' := ?_) #[true, true, true, true, true, true, true, false, true, true, true, true, false, true, true, true, true, true, true, true, true, true, true, true, false, false, false, false] rfl rfl (take_ofW HT_.out HW_.out (by kernel_rfl)) (fun _ _ _ h => h) (Or.inl ⟨by rfl, ?_⟩) hHeld ?_ ?_
       rotate_left
       · rintro w' ⟨s0, s1, s2⟩
         go_simp
         with_reducible rfl
       rotate_left
       · simp only [Act.put, z1, z2, z3, i64_w, i32_w]
         rfl
       refine one_ (i := 7) (N := some 103) #[true, true, true, true, true, true, true, true, true, true, true, true, false, true, true, true, true, true, true, true, true, true, true, true, false, false, false, false] rfl rfl (one_of HT_.out (by kernel_rfl)) (by decide) (fun K hK => ?_)
       refine goes_ Try.func30 (by kernel_rfl) rfl #[.int .i64 c.kp, .int .i64 (ratioS off span)] (by rfl) rfl rfl sl_ ?_
       with_reducible refine Calls.mono (part_ref _ _ _) ?_
       rintro e w' ⟨rfl, ⟨nd3, rfl⟩⟩
       have D1 := blk_drewN D0 nd3
       refine ⟨_, rfl, ?_⟩
       refine hK.out _ _ (⟨(cs8 D1).1, (cs8 D1).2.2.2.2.2.1, (cs8 D1).2.2.1⟩) (fun hHeld => ?_)
       clear hK K
       refine norm_ (a' := ?_) ?_ ?_
       rotate_left
       · show Act.put _ (some 103) _ = _
         simp only [Act.put, z1, z2, z3, i64_w, i32_w]
         rfl
       refine pure_ (i := 12) (N := some 108) (v := ?_) (a' := ?_) #[true, true, true, true, true, true, true, true, true, true, true, true, true, true, true, true, true, true, true, true, true, true, true, true, false, false, false, false] rfl rfl (any_of HT_.out (by kernel_rfl)) (fun _ _ _ h => h) (Or.inl ⟨by rfl, ?_⟩) ?_ ?_
       rotate_left
       · intro w'
         go_simp
         with_reducible rfl
       rotate_left
       · simp only [Act.put, z1, z2, z3, i64_w, i32_w]
         rfl
       refine one_ (i := 24) (N := some 120) #[true, true, true, true, true, true, true, true, true, true, true, true, true, true, true, true, true, true, true, true, true, true, true, true, true, false, false, false] rfl rfl (one_of HT_.out (by kernel_rfl)) (by decide) (fun K hK => ?_)
       refine goes_ Try.func29 (by kernel_rfl) rfl #[.int .i64 (wrap64 (wrap64 (c.kp * (ratioS off span)) / 65536 + I1)), .int .i64 (wrap64 (-c.li)), .int .i64 c.li] (by rfl) rfl rfl sl_ ?_
       with_reducible refine Calls.mono (clamp_ref _ _ _ _ (by rw [hwl]; exact HLI.out)) ?_
       rintro e w' ⟨rfl, ⟨nd4, rfl⟩⟩
       have D2 := blk_drewN D1 nd4
       refine ⟨_, rfl, ?_⟩
       refine hK.out _ _ (⟨(cs8 D2).1, (cs8 D2).2.2.2.2.2.1, (cs8 D2).2.2.1⟩) (fun hHeld => ?_)
       clear hK K
       refine norm_ (a' := ?_) ?_ ?_
       rotate_left
       · show Act.put _ (some 120) _ = _
         simp only [Act.put, z1, z2, z3, i64_w, i32_w]
         rfl
       refine pure_ (i := 25) (N := some 121) (v := ?_) (a' := ?_) #[true, true, true, true, true, true, true, true, true, true, true, true, true, true, true, true, true, true, true, true, true, true, true, true, true, true, false, false] rfl rfl (any_of HT_.out (by kernel_rfl)) (fun _ _ _ h => h) (Or.inl ⟨by rfl, ?_⟩) ?_ ?_
       rotate_left
       · intro w'
         go_simp
         with_reducible rfl
       rotate_left
       · simp only [Act.put, z1, z2, z3, i64_w, i32_w]
         rfl
       refine pure_ (i := 26) (N := some 122) (v := ?_) (a' := ?_) #[true, true, true, true, true, true, true, true, true, true, true, true, true, true, true, true, true, true, true, true, true, true, true, true, true, true, true, false] rfl rfl (any_of HT_.out (by kernel_rfl)) (fun _ _ _ h => h) (Or.inl ⟨by rfl, ?_⟩) ?_ ?_
       rotate_left
       · intro w'
         go_simp
         with_reducible rfl
       rotate_left
       · simp only [Act.put, z1, z2, z3, i64_w, i32_w]
         rfl
       refine last_ (i := 27) (N := none) #[true, true, true, true, true, true, true, true, true, true, true, true, true, true, true, true, true, true, true, true, true, true, true, true, true, true, true, true] rfl rfl (one_of HT_.out (by kernel_rfl)) (by decide) (fun K hK => ?_)
       have hce := (cs8 B4).2.2.2.2.2.2.2
       have hfe := blk_frozen B4 7
       refine skip_ (w1 := ?_) (by rfl) rfl ?_ ?_
       rotate_left
       · go_simp
         rfl
       refine hK.out _ _ ?_
       clear hK K
       refine done_ (done_of HT_.out (by kernel_rfl)) ?_
       have eF : mn (mx (wrap64 (wrap64 (c.kp * ratioS off span) / 65536 + I1)) (-c.li)) c.li = freqS c.kp c.li (ratioS off span) I1 := by unfold freqS; rw [hwl]
       rw [eF]
       clear eF
       generalize hF1 : freqS c.kp c.li (ratioS off span) I1 = F at *
       have B6 : ((w5.drewN (1 + nd3 + nd4)).setCell ⟨b, 7, none⟩ (.int .i64 F)).heap[b]? = some (rvo c ⟨I1, wrap64 (n + 1), F⟩) := blk_put (blk_drewN B4 _) 7 _ rfl
       have R6 := blk_far (blk_drewN R4 (1 + nd3 + nd4)) (p := ⟨b, 7, none⟩) (by simpa using Ne.symm hne) (.int .i64 F)
       have U6 := (U4.drewN (1 + nd3 + nd4)).set 7 (.int .i64 F)
       generalize (w5.drewN (1 + nd3 + nd4)).setCell ⟨b, 7, none⟩ (.int .i64 F) = w7 at *
       clear hce hfe D0 D1 D2 hHeld
       obtain ⟨c0, c1, c2, c3, c4, c5, c6, c7⟩ := cs8 B6
       obtain ⟨d0, d1⟩ := cs2 R6
       obtain ⟨g0, g1⟩ := fs2 R6
       go_wp2
       have R7 := blk_put R6 0 (.int .i64 1) rfl
       have B7 := blk_far B6 (p := ⟨w.heap.size, 0, none⟩) (by simpa using hne) (.int .i64 1)
       have R8 := blk_put R7 1 (.int .i64 F) rfl
       have B8 := blk_far B7 (p := ⟨w.heap.size, 1, none⟩) (by simpa using hne) (.int .i64 F)
       refine bodyPost_ret (results_ct rfl _ _ w.heap.size _ _ _ _ rfl R8 Try.underlying31 rfl (by kernel_rfl)) rfl ?_
       have U8 := (U6.far (g := w.heap.size) (Nat.le_refl _) 0 (.int .i64 1)).far (g := w.heap.size) (Nat.le_refl _) 1 (.int .i64 F)
       unfold act nxt
       rw [if_pos HH.out, if_neg hS, if_pos HH.out, if_neg hS]
       subst hF1
       subst hI1
       exact ⟨rfl, B8, U8⟩

set_option maxRecDepth 8000 in
set_option maxHeartbeats 8000000 in
theorem rsample_Q11 (b : Nat) (c : Conf) (I n last : Int) (off span : Int) (w : World) (hb : w.heap[b]? = some (rvo c ⟨I, n, last⟩)) (hc : okC c.kp c.ki c.li c.sf c.sl) (h : inS off span) (hn : (n == 0) = true) (hz : off < 0) (ht : ¬ 0 < c.sf) :
    Calls Try.prog 20 #[.pointer (some ⟨b, 0, none⟩), .int .i64 off, .int .i64 span] w fun e w' =>
      e = .returned (.tuple #[.agg #[.int .i64 (act c ⟨I, n, last⟩ off span).1, .int .i64 (act c ⟨I, n, last⟩ off span).2.1], .int .i64 (act c ⟨I, n, last⟩ off span).2.2]) ∧ w'.heap[b]? = some (rvo c (nxt c ⟨I, n, last⟩ off span)) ∧ Upd w w' b := by
  have hzz := hz
  have hneg : wrap64 (-off) = -off := w64_id (by unfold inS at h; omega) (by unfold inS at h; omega)
  have hz' : off < 0 := hz
  have ht' : c.sf ≤ 0 := by omega
  have hlt := blk_lt hb
  have hli : wrap64 (-c.li) = -c.li ∧ -c.li ≤ c.li := by unfold okC at hc; exact ⟨w64_id (by omega) (by omega), by omega⟩
  have hwl := hli.1
  have HLI := Aside0.mk hli.2
  have hRat := Aside0.mk (fun W => ratio_ref off span W h)
  have B1 := blk_alloc hb (.cells #[.int .i64 0, .int .i64 0] 31)
  have R1 := blk_new w (.cells #[.int .i64 0, .int .i64 0] 31)
  have B0 : (w.setCell ⟨b, 6, none⟩ (.int .i64 (wrap64 (n + 1)))).heap[b]? = some (rvo c ⟨I, wrap64 (n + 1), last⟩) := blk_put hb 6 _ rfl
  have B2 := blk_alloc B0 (.cells #[.int .i64 0, .int .i64 0] 31)
  have U2 : Upd w ((w.setCell ⟨b, 6, none⟩ (.int .i64 (wrap64 (n + 1)))).alloc (.cells #[.int .i64 0, .int .i64 0] 31)) b := ((Upd.refl w b).set 6 _).alloc _
  have R2 := blk_new (w.setCell ⟨b, 6, none⟩ (.int .i64 (wrap64 (n + 1)))) (.cells #[.int .i64 0, .int .i64 0] 31)
  have hsz : (w.setCell ⟨b, 6, none⟩ (.int .i64 (wrap64 (n + 1)))).heap.size = w.heap.size := by simp [World.setCell]
  rw [hsz] at R2
  clear hsz
  obtain ⟨c0, c1, c2, c3, c4, c5, c6, c7⟩ := cs8 B1
  obtain ⟨f0, f1, f2, f3, f4, f5, f6, f7⟩ := fs8 B1
  have hne : b ≠ w.heap.size := by omega
  have e1' : ¬ (off < -1125899906842624) := by unfold inS at h; omega
  have e2' : ¬ (1125899906842624 < off) := by unfold inS at h; omega
  have e3' : ¬ (span < 1) := by unfold inS at h; omega
  have e4' : ¬ (1125899906842624 < span) := by unfold inS at h; omega
  have HB := Aside0.mk B2
  have HR := Aside0.mk R2
  have HU := Aside0.mk U2
  have HH := Aside0.mk h
  clear B2 R2 U2 B0 h hc hli
  go_enter Try.func20, Try.ntmps20
  go_wp2_with (first
    | (go_at_call 28
       with_reducible refine Calls.mono (hRat.out _) ?_
       rintro e w' ⟨rfl, ⟨nd, rfl⟩⟩
       have B3 := blk_drewN HB.out nd
       have R3 := blk_drewN HR.out nd
       have U3 := HU.out.drewN nd
       generalize ((w.setCell ⟨b, 6, none⟩ (.int .i64 (wrap64 (n + 1)))).alloc (.cells #[.int .i64 0, .int .i64 0] 31)).drewN nd = w3 at *))
  all_goals
       have hS : ¬ stepsS c.sf c.sl n off := by
         unfold stepsS thrS
         rw [abs_mx]
         first
           | exact rest_ref5 (by assumption) (by assumption)
           | exact rest_ref6 (by assumption) (by assumption)
           | exact rest_ref1 (by assumption) (by assumption) (by assumption)
           | exact rest_ref2 (by assumption) (by assumption) (by assumption)
           | exact rest_ref3 (by assumption) (by assumption) (by assumption)
           | exact rest_ref4 (by assumption) (by assumption) (by assumption)
       obtain ⟨c0, c1, c2, c3, c4, c5, c6, c7⟩ := cs8 B3
       refine start_ (n := 28) (S := (fun w' => w'.cell? ⟨b, 5, none⟩ = some (.int .i64 I) ∧ w'.cell? ⟨b, 1, none⟩ = some (.int .i64 c.ki) ∧ w'.cell? ⟨b, 2, none⟩ = some (.int .i64 c.li))) (ds := [27]) #[false, false, false, false, false, false, false, false, false, false, false, false, false, false, false, false, false, false, false, false, false, false, false, false, false, false, false, false] (by kernel_rfl) rfl rfl (⟨(cs8 (blk_drewN B3 1)).2.2.2.2.2.1, (cs8 (blk_drewN B3 1)).2.1, (cs8 (blk_drewN B3 1)).2.2.1⟩) (fun hHeld => ?_); refine with_tabW r15.tab r15.bits (fun HT_ HW_ => ?_)
       have C0 := blk_drewN B3 1
       change wpAnyLast _ _ _ _ _ _ _ _ _ (w3.drewN 1)
       refine pure_ (i := 0) (N := some 69) (v := ?_) (a' := ?_) #[true, false, false, false, false, false, false, false, false, false, false, false, false, false, false, false, false, false, false, false, false, false, false, false, false, false, false, false] rfl rfl (any_of HT_.out (by kernel_rfl)) (fun _ _ _ h => h) (Or.inl ⟨by rfl, ?_⟩) ?_ ?_
       rotate_left
       · intro w'
         go_simp
         with_reducible rfl
       rotate_left
       · simp only [Act.put, z1, z2, z3, i64_w, i32_w]
         rfl
       refine pure_ (i := 1) (N := some 70) (v := ?_) (a' := ?_) #[true, true, false, false, false, false, false, false, false, false, false, false, false, false, false, false, false, false, false, false, false, false, false, false, false, false, false, false] rfl rfl (any_of HT_.out (by kernel_rfl)) (fun _ _ _ h => h) (Or.inl ⟨by rfl, ?_⟩) ?_ ?_
       rotate_left
       · intro w'
         go_simp
         with_reducible rfl
       rotate_left
       · simp only [Act.put, z1, z2, z3, i64_w, i32_w]
         rfl
       refine pure_ (i := 2) (N := some 71) (v := ?_) (a' := ?_) #[true, true, true, false, false, false, false, false, false, false, false, false, false, false, false, false, false, false, false, false, false, false, false, false, false, false, false, false] rfl rfl (any_of HT_.out (by kernel_rfl)) (fun _ _ _ h => h) (Or.inl ⟨by rfl, ?_⟩) ?_ ?_
       rotate_left
       · intro w'
         go_simp
         with_reducible rfl
       rotate_left
       · simp only [Act.put, z1, z2, z3, i64_w, i32_w]
         rfl
       refine pure_ (i := 3) (N := some 72) (v := ?_) (a' := ?_) #[true, true, true, true, false, false, false, false, false, false, false, false, false, false, false, false, false, false, false, false, false, false, false, false, false, false, false, false] rfl rfl (any_of HT_.out (by kernel_rfl)) (fun _ _ _ h => h) (Or.inl ⟨by rfl, ?_⟩) ?_ ?_
       rotate_left
       · intro w'
         go_simp
         with_reducible rfl
       rotate_left
       · simp only [Act.put, z1, z2, z3, i64_w, i32_w]
         rfl
       refine take_ (i := 4) (N := some 73) (v := ?_) (a' := ?_) #[true, true, true, true, true, false, false, false, false, false, false, false, false, false, false, false, false, false, false, false, false, false, false, false, false, false, false, false] rfl rfl (take_ofW HT_.out HW_.out (by kernel_rfl)) (fun _ _ _ h => h) (Or.inl ⟨by rfl, ?_⟩) hHeld ?_ ?_
       rotate_left
       · rintro w' ⟨s0, s1, s2⟩
         go_simp
         with_reducible rfl
       rotate_left
       · simp only [Act.put, z1, z2, z3, i64_w, i32_w]
         rfl
       refine pure_ (i := 5) (N := some 74) (v := ?_) (a' := ?_) #[true, true, true, true, true, true, false, false, false, false, false, false, false, false, false, false, false, false, false, false, false, false, false, false, false, false, false, false] rfl rfl (any_of HT_.out (by kernel_rfl)) (fun _ _ _ h => h) (Or.inl ⟨by rfl, ?_⟩) ?_ ?_
       rotate_left
       · intro w'
         go_simp
         with_reducible rfl
       rotate_left
       · simp only [Act.put, z1, z2, z3, i64_w, i32_w]
         rfl
       refine pure_ (i := 6) (N := some 75) (v := ?_) (a' := ?_) #[true, true, true, true, true, true, true, false, false, false, false, false, false, false, false, false, false, false, false, false, false, false, false, false, false, false, false, false] rfl rfl (any_of HT_.out (by kernel_rfl)) (fun _ _ _ h => h) (Or.inl ⟨by rfl, ?_⟩) ?_ ?_
       rotate_left
       · intro w'
         go_simp
         with_reducible rfl
       rotate_left
       · simp only [Act.put, z1, z2, z3, i64_w, i32_w]
         rfl
       refine pure_ (i := 7) (N := some 76) (v := ?_) (a' := ?_) #[true, true, true, true, true, true, true, true, false, false, false, false, false, false, false, false, false, false, false, false, false, false, false, false, false, false, false, false] rfl rfl (any_of HT_.out (by kernel_rfl)) (fun _ _ _ h => h) (Or.inl ⟨by rfl, ?_⟩) ?_ ?_
       rotate_left
       · intro w'
         go_simp
         with_reducible rfl
       rotate_left
       · simp only [Act.put, z1, z2, z3, i64_w, i32_w]
         rfl
       refine pure_ (i := 8) (N := some 77) (v := ?_) (a' := ?_) #[true, true, true, true, true, true, true, true, true, false, false, false, false, false, false, false, false, false, false, false, false, false, false, false, false, false, false, false] rfl rfl (any_of HT_.out (by kernel_rfl)) (fun _ _ _ h => h) (Or.inl ⟨by rfl, ?_⟩) ?_ ?_
       rotate_left
       · intro w'
         go_simp
         with_reducible rfl
       rotate_left
       · simp only [Act.put, z1, z2, z3, i64_w, i32_w]
         rfl
       refine take_ (i := 9) (N := some 78) (v := ?_) (a' := ?_) #[true, true, true, true, true, true, true, true, true, true, false, false, false, false, false, false, false, false, false, false, false, false, false, false, false, false, false, false] rfl rfl (take_ofW HT_.out HW_.out (by kernel_rfl)) (fun _ _ _ h => h) (Or.inl ⟨by rfl, ?_⟩) hHeld ?_ ?_
       rotate_left
       · rintro w' ⟨s0, s1, s2⟩
         go_simp
         with_reducible rfl
       rotate_left
       · simp only [Act.put, z1, z2, z3, i64_w, i32_w]
         rfl
       refine pure_ (i := 10) (N := some 79) (v := ?_) (a' := ?_) #[true, true, true, true, true, true, true, true, true, true, true, false, false, false, false, false, false, false, false, false, false, false, false, false, false, false, false, false] rfl rfl (any_of HT_.out (by kernel_rfl)) (fun _ _ _ h => h) (Or.inl ⟨by rfl, ?_⟩) ?_ ?_
       rotate_left
       · intro w'
         go_simp
         with_reducible rfl
       rotate_left
       · simp only [Act.put, z1, z2, z3, i64_w, i32_w]
         rfl
       refine pure_ (i := 13) (N := some 82) (v := ?_) (a' := ?_) #[true, true, true, true, true, true, true, true, true, true, true, false, false, true, false, false, false, false, false, false, false, false, false, false, false, false, false, false] rfl rfl (any_of HT_.out (by kernel_rfl)) (fun _ _ _ h => h) (Or.inl ⟨by rfl, ?_⟩) ?_ ?_
       rotate_left
       · intro w'
         go_simp
         with_reducible rfl
       rotate_left
       · simp only [Act.put, z1, z2, z3, i64_w, i32_w]
         rfl
       refine pure_ (i := 14) (N := some 83) (v := ?_) (a' := ?_) #[true, true, true, true, true, true, true, true, true, true, true, false, false, true, true, false, false, false, false, false, false, false, false, false, false, false, false, false] rfl rfl (any_of HT_.out (by kernel_rfl)) (fun _ _ _ h => h) (Or.inl ⟨by rfl, ?_⟩) ?_ ?_
       rotate_left
       · intro w'
         go_simp
         with_reducible rfl
       rotate_left
       · simp only [Act.put, z1, z2, z3, i64_w, i32_w]
         rfl
       refine pure_ (i := 15) (N := some 84) (v := ?_) (a' := ?_) #[true, true, true, true, true, true, true, true, true, true, true, false, false, true, true, true, false, false, false, false, false, false, false, false, false, false, false, false] rfl rfl (any_of HT_.out (by kernel_rfl)) (fun _ _ _ h => h) (Or.inl ⟨by rfl, ?_⟩) ?_ ?_
       rotate_left
       · intro w'
         go_simp
         with_reducible rfl
       rotate_left
       · simp only [Act.put, z1, z2, z3, i64_w, i32_w]
         rfl
       refine pure_ (i := 16) (N := some 85) (v := ?_) (a' := ?_) #[true, true, true, true, true, true, true, true, true, true, true, false, false, true, true, true, true, false, false, false, false, false, false, false, false, false, false, false] rfl rfl (any_of HT_.out (by kernel_rfl)) (fun _ _ _ h => h) (Or.inl ⟨by rfl, ?_⟩) ?_ ?_
       rotate_left
       · intro w'
         go_simp
         with_reducible rfl
       rotate_left
       · simp only [Act.put, z1, z2, z3, i64_w, i32_w]
         rfl
       refine take_ (i := 17) (N := some 86) (v := ?_) (a' := ?_) #[true, true, true, true, true, true, true, true, true, true, true, false, false, true, true, true, true, true, false, false, false, false, false, false, false, false, false, false] rfl rfl (take_ofW HT_.out HW_.out (by kernel_rfl)) (fun _ _ _ h => h) (Or.inl ⟨by rfl, ?_⟩) hHeld ?_ ?_
       rotate_left
       · rintro w' ⟨s0, s1, s2⟩
         go_simp
         with_reducible rfl
       rotate_left
       · simp only [Act.put, z1, z2, z3, i64_w, i32_w]
         rfl
       refine pure_ (i := 18) (N := some 87) (v := ?_) (a' := ?_) #[true, true, true, true, true, true, true, true, true, true, true, false, false, true, true, true, true, true, true, false, false, false, false, false, false, false, false, false] rfl rfl (any_of HT_.out (by kernel_rfl)) (fun _ _ _ h => h) (Or.inl ⟨by rfl, ?_⟩) ?_ ?_
       rotate_left
       · intro w'
         go_simp
         with_reducible rfl
       rotate_left
       · simp only [Act.put, z1, z2, z3, i64_w, i32_w]
         rfl
       refine pure_ (i := 19) (N := some 88) (v := ?_) (a' := ?_) #[true, true, true, true, true, true, true, true, true, true, true, false, false, true, true, true, true, true, true, true, false, false, false, false, false, false, false, false] rfl rfl (any_of HT_.out (by kernel_rfl)) (fun _ _ _ h => h) (Or.inl ⟨by rfl, ?_⟩) ?_ ?_
       rotate_left
       · intro w'
         go_simp
         with_reducible rfl
       rotate_left
       · simp only [Act.put, z1, z2, z3, i64_w, i32_w]
         rfl
       refine pure_ (i := 20) (N := some 89) (v := ?_) (a' := ?_) #[true, true, true, true, true, true, true, true, true, true, true, false, false, true, true, true, true, true, true, true, true, false, false, false, false, false, false, false] rfl rfl (any_of HT_.out (by kernel_rfl)) (fun _ _ _ h => h) (Or.inl ⟨by rfl, ?_⟩) ?_ ?_
       rotate_left
       · intro w'
         go_simp
         with_reducible rfl
       rotate_left
       · simp only [Act.put, z1, z2, z3, i64_w, i32_w]
         rfl
       refine pure_ (i := 21) (N := some 90) (v := ?_) (a' := ?_) #[true, true, true, true, true, true, true, true, true, true, true, false, false, true, true, true, true, true, true, true, true, true, false, false, false, false, false, false] rfl rfl (any_of HT_.out (by kernel_rfl)) (fun _ _ _ h => h) (Or.inl ⟨by rfl, ?_⟩) ?_ ?_
       rotate_left
       · intro w'
         go_simp
         with_reducible rfl
       rotate_left
       · simp only [Act.put, z1, z2, z3, i64_w, i32_w]
         rfl
       refine pure_ (i := 22) (N := some 91) (v := ?_) (a' := ?_) #[true, true, true, true, true, true, true, true, true, true, true, false, false, true, true, true, true, true, true, true, true, true, true, false, false, false, false, false] rfl rfl (any_of HT_.out (by kernel_rfl)) (fun _ _ _ h => h) (Or.inl ⟨by rfl, ?_⟩) ?_ ?_
       rotate_left
       · intro w'
         go_simp
         with_reducible rfl
       rotate_left
       · simp only [Act.put, z1, z2, z3, i64_w, i32_w]
         rfl
       refine take_ (i := 23) (N := some 92) (v := ?_) (a' := ?_) #[true, true, true, true, true, true, true, true, true, true, true, false, false, true, true, true, true, true, true, true, true, true, true, true, false, false, false, false] rfl rfl (take_ofW HT_.out HW_.out (by kernel_rfl)) (fun _ _ _ h => h) (Or.inl ⟨by rfl, ?_⟩) hHeld ?_ ?_
       rotate_left
       · rintro w' ⟨s0, s1, s2⟩
         go_simp
         with_reducible rfl
       rotate_left
       · simp only [Act.put, z1, z2, z3, i64_w, i32_w]
         rfl
       refine one_ (i := 11) (N := some 80) #[true, true, true, true, true, true, true, true, true, true, true, true, false, true, true, true, true, true, true, true, true, true, true, true, false, false, false, false] rfl rfl (one_of HT_.out (by kernel_rfl)) (by decide) (fun K hK => ?_)
       refine goes_ Try.func30 (by kernel_rfl) rfl #[.int .i64 c.ki, .int .i64 (ratioS off span)] (by rfl) rfl rfl sl_ ?_
       with_reducible refine Calls.mono (part_ref _ _ _) ?_
       rintro e w' ⟨rfl, ⟨nd1, rfl⟩⟩
       have C1 := blk_drewN C0 nd1
       refine ⟨_, rfl, ?_⟩
       refine hK.out _ _ (⟨(cs8 C1).2.2.2.2.2.1, (cs8 C1).2.1, (cs8 C1).2.2.1⟩) (fun hHeld => ?_)
       clear hK K
       refine norm_ (a' := ?_) ?_ ?_
       rotate_left
       · show Act.put _ (some 80) _ = _
         simp only [Act.put, z1, z2, z3, i64_w, i32_w]
         rfl
       refine pure_ (i := 12) (N := some 81) (v := ?_) (a' := ?_) #[true, true, true, true, true, true, true, true, true, true, true, true, true, true, true, true, true, true, true, true, true, true, true, true, false, false, false, false] rfl rfl (any_of HT_.out (by kernel_rfl)) (fun _ _ _ h => h) (Or.inl ⟨by rfl, ?_⟩) ?_ ?_
       rotate_left
       · intro w'
         go_simp
         with_reducible rfl
       rotate_left
       · simp only [Act.put, z1, z2, z3, i64_w, i32_w]
         rfl
       refine one_ (i := 24) (N := some 93) #[true, true, true, true, true, true, true, true, true, true, true, true, true, true, true, true, true, true, true, true, true, true, true, true, true, false, false, false] rfl rfl (one_of HT_.out (by kernel_rfl)) (by decide) (fun K hK => ?_)
       refine goes_ Try.func29 (by kernel_rfl) rfl #[.int .i64 (wrap64 (I + wrap64 (c.ki * (ratioS off span)) / 65536)), .int .i64 (wrap64 (-c.li)), .int .i64 c.li] (by rfl) rfl rfl sl_ ?_
       with_reducible refine Calls.mono (clamp_ref _ _ _ _ (by rw [hwl]; exact HLI.out)) ?_
       rintro e w' ⟨rfl, ⟨nd2, rfl⟩⟩
       have C2 := blk_drewN C1 nd2
       refine ⟨_, rfl, ?_⟩
       refine hK.out _ _ (⟨(cs8 C2).2.2.2.2.2.1, (cs8 C2).2.1, (cs8 C2).2.2.1⟩) (fun hHeld => ?_)
       clear hK K
       refine norm_ (a' := ?_) ?_ ?_
       rotate_left
       · show Act.put _ (some 93) _ = _
         simp only [Act.put, z1, z2, z3, i64_w, i32_w]
         rfl
       refine pure_ (i := 25) (N := some 94) (v := ?_) (a' := ?_) #[true, true, true, true, true, true, true, true, true, true, true, true, true, true, true, true, true, true, true, true, true, true, true, true, true, true, false, false] rfl rfl (any_of HT_.out (by kernel_rfl)) (fun _ _ _ h => h) (Or.inl ⟨by rfl, ?_⟩) ?_ ?_
       rotate_left
       · intro w'
         go_simp
         with_reducible rfl
       rotate_left
       · simp only [Act.put, z1, z2, z3, i64_w, i32_w]
         rfl
       refine pure_ (i := 26) (N := some 95) (v := ?_) (a' := ?_) #[true, true, true, true, true, true, true, true, true, true, true, true, true, true, true, true, true, true, true, true, true, true, true, true, true, true, true, false] rfl rfl (any_of HT_.out (by kernel_rfl)) (fun _ _ _ h => h) (Or.inl ⟨by rfl, ?_⟩) ?_ ?_
       rotate_left
       · intro w'
         go_simp
         with_reducible rfl
       rotate_left
       · simp only [Act.put, z1, z2, z3, i64_w, i32_w]
         rfl
       refine last_ (i := 27) (N := none) #[true, true, true, true, true, true, true, true, true, true, true, true, true, true, true, true, true, true, true, true, true, true, true, true, true, true, true, true] rfl rfl (one_of HT_.out (by kernel_rfl)) (by decide) (fun K hK => ?_)
       have hce := (cs8 B3).2.2.2.2.2.1
       have hfe := blk_frozen B3 5
       refine skip_ (w1 := ?_) (by rfl) rfl ?_ ?_
       rotate_left
       · go_simp
         rfl
       refine hK.out _ _ ?_
       clear hK K
       refine done_ (done_of HT_.out (by kernel_rfl)) ?_
       have eI : mn (mx (wrap64 (I + wrap64 (c.ki * ratioS off span) / 65536)) (-c.li)) c.li = intS c.ki c.li I (ratioS off span) := by unfold intS; rw [hwl]
       rw [eI]
       clear eI
       generalize hI1 : intS c.ki c.li I (ratioS off span) = I1 at *
       have B4 : ((w3.drewN (1 + nd1 + nd2)).setCell ⟨b, 5, none⟩ (.int .i64 I1)).heap[b]? = some (rvo c ⟨I1, wrap64 (n + 1), last⟩) := blk_put (blk_drewN B3 _) 5 _ rfl
       have R4 := blk_far (blk_drewN R3 (1 + nd1 + nd2)) (p := ⟨b, 5, none⟩) (by simpa using Ne.symm hne) (.int .i64 I1)
       have U4 := (U3.drewN (1 + nd1 + nd2)).set 5 (.int .i64 I1)
       generalize (w3.drewN (1 + nd1 + nd2)).setCell ⟨b, 5, none⟩ (.int .i64 I1) = w5 at *
       clear c0 c1 c2 c3 c4 c5 c6 c7 f0 f1 f2 f3 f4 f5 f6 f7 hce hfe C0 C1 C2 hHeld
       go_wp2_with fail
       refine start_ (n := 28) (S := (fun w' => w'.cell? ⟨b, 0, none⟩ = some (.int .i64 c.kp) ∧ w'.cell? ⟨b, 5, none⟩ = some (.int .i64 I1) ∧ w'.cell? ⟨b, 2, none⟩ = some (.int .i64 c.li))) (ds := [27]) #[false, false, false, false, false, false, false, false, false, false, false, false, false, false, false, false, false, false, false, false, false, false, false, false, false, false, false, false] (by kernel_rfl) rfl rfl (⟨(cs8 (blk_drewN B4 1)).1, (cs8 (blk_drewN B4 1)).2.2.2.2.2.1, (cs8 (blk_drewN B4 1)).2.2.1⟩) (fun hHeld => ?_); refine with_tabW r16.tab r16.bits (fun HT_ HW_ => ?_)
       have D0 := blk_drewN B4 1
       change wpAnyLast _ _ _ _ _ _ _ _ _ (w5.drewN 1)
       refine pure_ (i := 0) (N := some 96) (v := ?_) (a' := ?_) #[true, false, false, false, false, false, false, false, false, false, false, false, false, false, false, false, false, false, false, false, false, false, false, false, false, false, false, false] rfl rfl (any_of HT_.out (by kernel_rfl)) (fun _ _ _ h => h) (Or.inl ⟨by rfl, ?_⟩) ?_ ?_
       rotate_left
       · intro w'
         go_simp
         with_reducible rfl
       rotate_left
       · simp only [Act.put, z1, z2, z3, i64_w, i32_w]
         rfl
       refine pure_ (i := 1) (N := some 97) (v := ?_) (a' := ?_) #[true, true, false, false, false, false, false, false, false, false, false, false, false, false, false, false, false, false, false, false, false, false, false, false, false, false, false, false] rfl rfl (any_of HT_.out (by kernel_rfl)) (fun _ _ _ h => h) (Or.inl ⟨by rfl, ?_⟩) ?_ ?_
       rotate_left
       · intro w'
         go_simp
         with_reducible rfl
       rotate_left
       · simp only [Act.put, z1, z2, z3, i64_w, i32_w]
         rfl
       refine pure_ (i := 2) (N := some 98) (v := ?_) (a' := ?_) #[true, true, true, false, false, false, false, false, false, false, false, false, false, false, false, false, false, false, false, false, false, false, false, false, false, false, false, false] rfl rfl (any_of HT_.out (by kernel_rfl)) (fun _ _ _ h => h) (Or.inl ⟨by rfl, ?_⟩) ?_ ?_
       rotate_left
       · intro w'
         go_simp
         with_reducible rfl
       rotate_left
       · simp only [Act.put, z1, z2, z3, i64_w, i32_w]
         rfl
       refine pure_ (i := 3) (N := some 99) (v := ?_) (a' := ?_) #[true, true, true, true, false, false, false, false, false, false, false, false, false, false, false, false, false, false, false, false, false, false, false, false, false, false, false, false] rfl rfl (any_of HT_.out (by kernel_rfl)) (fun _ _ _ h => h) (Or.inl ⟨by rfl, ?_⟩) ?_ ?_
       rotate_left
       · intro w'
         go_simp
         with_reducible rfl
       rotate_left
       · simp only [Act.put, z1, z2, z3, i64_w, i32_w]
         rfl
       refine pure_ (i := 4) (N := some 100) (v := ?_) (a' := ?_) #[true, true, true, true, true, false, false, false, false, false, false, false, false, false, false, false, false, false, false, false, false, false, false, false, false, false, false, false] rfl rfl (any_of HT_.out (by kernel_rfl)) (fun _ _ _ h => h) (Or.inl ⟨by rfl, ?_⟩) ?_ ?_
       rotate_left
       · intro w'
         go_simp
         with_reducible rfl
       rotate_left
       · simp only [Act.put, z1, z2, z3, i64_w, i32_w]
         rfl
       refine take_ (i := 5) (N := some 101) (v := ?_) (a' := ?_) #[true, true, true, true, true, true, false, false, false, false, false, false, false, false, false, false, false, false, false, false, false, false, false, false, false, false, false, false] rfl rfl (take_ofW HT_.out HW_.out (by kernel_rfl)) (fun _ _ _ h => h) (Or.inl ⟨by rfl, ?_⟩) hHeld ?_ ?_
       rotate_left
       · rintro w' ⟨s0, s1, s2⟩
         go_simp
         with_reducible rfl
       rotate_left
       · simp only [Act.put, z1, z2, z3, i64_w, i32_w]
         rfl
       refine pure_ (i := 6) (N := some 102) (v := ?_) (a' := ?_) #[true, true, true, true, true, true, true, false, false, false, false, false, false, false, false, false, false, false, false, false, false, false, false, false, false, false, false, false] rfl rfl (any_of HT_.out (by kernel_rfl)) (fun _ _ _ h => h) (Or.inl ⟨by rfl, ?_⟩) ?_ ?_
       rotate_left
       · intro w'
         go_simp
         with_reducible rfl
       rotate_left
       · simp only [Act.put, z1, z2, z3, i64_w, i32_w]
         rfl
       refine pure_ (i := 8) (N := some 104) (v := ?_) (a' := ?_) #[true, true, true, true, true, true, true, false, true, false, false, false, false, false, false, false, false, false, false, false, false, false, false, false, false, false, false, false] rfl rfl (any_of HT_.out (by kernel_rfl)) (fun _ _ _ h => h) (Or.inl ⟨by rfl, ?_⟩) ?_ ?_
       rotate_left
       · intro w'
         go_simp
         with_reducible rfl
       rotate_left
       · simp only [Act.put, z1, z2, z3, i64_w, i32_w]
         rfl
       refine pure_ (i := 9) (N := some 105) (v := ?_) (a' := ?_) #[true, true, true, true, true, true, true, false, true, true, false, false, false, false, false, false, false, false, false, false, false, false, false, false, false, false, false, false] rfl rfl (any_of HT_.out (by kernel_rfl)) (fun _ _ _ h => h) (Or.inl ⟨by rfl, ?_⟩) ?_ ?_
       rotate_left
       · intro w'
         go_simp
         with_reducible rfl
       rotate_left
       · simp only [Act.put, z1, z2, z3, i64_w, i32_w]
         rfl
       refine pure_ (i := 10) (N := some 106) (v := ?_) (a' := ?_) #[true, true, true, true, true, true, true, false, true, true, true, false, false, false, false, false, false, false, false, false, false, false, false, false, false, false, false, false] rfl rfl (any_of HT_.out (by kernel_rfl)) (fun _ _ _ h => h) (Or.inl ⟨by rfl, ?_⟩) ?_ ?_
       rotate_left
       · intro w'
         go_simp
         with_reducible rfl
       rotate_left
       · simp only [Act.put, z1, z2, z3, i64_w, i32_w]
         rfl
       refine take_ (i := 11) (N := some 107) (v := ?_) (a' := ?_) #[true, true, true, true, true, true, true, false, true, true, true, true, false, false, false, false, false, false, false, false, false, false, false, false, false, false, false, false] rfl rfl (take_ofW HT_.out HW_.out (by kernel_rfl)) (fun _ _ _ h => h) (Or.inl ⟨by rfl, ?_⟩) hHeld ?_ ?_
       rotate_left
       · rintro w' ⟨s0, s1, s2⟩
         go_simp
         with_reducible rfl
       rotate_left
       · simp only [Act.put, z1, z2, z3, i64_w, i32_w]
         rfl
       refine pure_ (i := 13) (N := some 109) (v := ?_) (a' := ?_) #[true, true, true, true, true, true, true, false, true, true, true, true, false, true, false, false, false, false, false, false, false, false, false, false, false, false, false, false] rfl rfl (any_of HT_.out (by kernel_rfl)) (fun _ _ _ h => h) (Or.inl ⟨by rfl, ?_⟩) ?_ ?_
       rotate_left
       · intro w'
         go_simp
         with_reducible rfl
       rotate_left
       · simp only [Act.put, z1, z2, z3, i64_w, i32_w]
         rfl
       refine pure_ (i := 14) (N := some 110) (v := ?_) (a' := ?_) #[true, true, true, true, true, true, true, false, true, true, true, true, false, true, true, false, false, false, false, false, false, false, false, false, false, false, false, false] rfl rfl (any_of HT_.out (by kernel_rfl)) (fun _ _ _ h => h) (Or.inl ⟨by rfl, ?_⟩) ?_ ?_
       rotate_left
       · intro w'
         go_simp
         with_reducible rfl
       rotate_left
       · simp only [Act.put, z1, z2, z3, i64_w, i32_w]
         rfl
       refine pure_ (i := 15) (N := some 111) (v := ?_) (a' := ?_) #[true, true, true, true, true, true, true, false, true, true, true, true, false, true, true, true, false, false, false, false, false, false, false, false, false, false, false, false] rfl rfl (any_of HT_.out (by kernel_rfl)) (fun _ _ _ h => h) (Or.inl ⟨by rfl, ?_⟩) ?_ ?_
       rotate_left
       · intro w'
         go_simp
         with_reducible rfl
       rotate_left
       · simp only [Act.put, z1, z2, z3, i64_w, i32_w]
         rfl
       refine pure_ (i := 16) (N := some 112) (v := ?_) (a' := ?_) #[true, true, true, true, true, true, true, false, true, true, true, true, false, true, true, true, true, false, false, false, false, false, false, false, false, false, false, false] rfl rfl (any_of HT_.out (by kernel_rfl)) (fun _ _ _ h => h) (Or.inl ⟨by rfl, ?_⟩) ?_ ?_
       rotate_left
       · intro w'
         go_simp
         with_reducible rfl
       rotate_left
       · simp only [Act.put, z1, z2, z3, i64_w, i32_w]
         rfl
       refine take_ (i := 17) (N := some 113) (v := ?_) (a' := ?_) #[true, true, true, true, true, true, true, false, true, true, true, true, false, true, true, true, true, true, false, false, false, false, false, false, false, false, false, false] rfl rfl (take_ofW HT_.out HW_.out (by kernel_rfl)) (fun _ _ _ h => h) (Or.inl ⟨by rfl, ?_⟩) hHeld ?_ ?_
       rotate_left
       · rintro w' ⟨s0, s1, s2⟩
         go_simp
         with_reducible rfl
       rotate_left
       · simp only [Act.put, z1, z2, z3, i64_w, i32_w]
         rfl
       refine pure_ (i := 18) (N := some 114) (v := ?_) (a' := ?_) #[true, true, true, true, true, true, true, false, true, true, true, true, false, true, true, true, true, true, true, false, false, false, false, false, false, false, false, false] rfl rfl (any_of HT_.out (by kernel_rfl)) (fun _ _ _ h => h) (Or.inl ⟨by rfl, ?_⟩) ?_ ?_
       rotate_left
       · intro w'
         go_simp
         with_reducible rfl
       rotate_left
       · simp only [Act.put, z1, z2, z3, i64_w, i32_w]
         rfl
       refine pure_ (i := 19) (N := some 115) (v := ?_) (a' := ?_) #[true, true, true, true, true, true, true, false, true, true, true, true, false, true, true, true, true, true, true, true, false, false, false, false, false, false, false, false] rfl rfl (any_of HT_.out (by kernel_rfl)) (fun _ _ _ h => h) (Or.inl ⟨by rfl, ?_⟩) ?_ ?_
       rotate_left
       · intro w'
         go_simp
         with_reducible rfl
       rotate_left
       · simp only [Act.put, z1, z2, z3, i64_w, i32_w]
         rfl
       refine pure_ (i := 20) (N := some 116) (v := ?_) (a' := ?_) #[true, true, true, true, true, true, true, false, true, true, true, true, false, true, true, true, true, true, true, true, true, false, false, false, false, false, false, false] rfl rfl (any_of HT_.out (by kernel_rfl)) (fun _ _ _ h => h) (Or.inl ⟨by rfl, ?_⟩) ?_ ?_
       rotate_left
       · intro w'
         go_simp
         with_reducible rfl
       rotate_left
       · simp only [Act.put, z1, z2, z3, i64_w, i32_w]
         rfl
       refine pure_ (i := 21) (N := some 117) (v := ?_) (a' := ?_) #[true, true, true, true, true, true, true, false, true, true, true, true, false, true, true, true, true, true, true, true, true, true, false, false, false, false, false, false] rfl rfl (any_of HT_.out (by kernel_rfl)) (fun _ _ _ h => h) (Or.inl ⟨by rfl, ?_⟩) ?_ ?_
       rotate_left
       · intro w'
         go_simp
         with_reducible rfl
       rotate_left
       · simp only [Act.put, z1, z2, z3, i64_w, i32_w]
         rfl
       refine pure_ (i := 22) (N := some 118) (v := ?_) (a' := ?_) #[true, true, true, true, true, true, true, false, true, true, true, true, false, true, true, true, true, true, true, true, true, true, true, false, false, false, false, false] rfl rfl (any_of HT_.out (by kernel_rfl)) (fun _ _ _ h => h) (Or.inl ⟨by rfl, ?_⟩) ?_ ?_
       rotate_left
       · intro w'
         go_simp
         with_reducible rfl
       rotate_left
       · simp only [Act.put, z1, z2, z3, i64_w, i32_w]
         rfl
       refine take_ (i := 23) (N := some 119) (v := ?_) (a' := ?_) #[true, true, true, true, true, true, true, false, true, true, true, true, false, true, true, true, true, true, true, true, true, true, true, true, false, false, false, false] rfl rfl (take_ofW HT_.out HW_.out (by kernel_rfl)) (fun _ _ _ h => h) (Or.inl ⟨by rfl, ?_⟩) hHeld ?_ ?_
       rotate_left
       · rintro w' ⟨s0, s1, s2⟩
         go_simp
         with_reducible rfl
       rotate_left
       · simp only [Act.put, z1, z2, z3, i64_w, i32_w]
         rfl
       refine one_ (i := 7) (N := some 103) #[true, true, true, true, true, true, true, true, true, true, true, true, false, true, true, true, true, true, true, true, true, true, true, true, false, false, false, false] rfl rfl (one_of HT_.out (by kernel_rfl)) (by decide) (fun K hK => ?_)
       refine goes_ Try.func30 (by kernel_rfl) rfl #[.int .i64 c.kp, .int .i64 (ratioS off span)] (by rfl) rfl rfl sl_ ?_
       with_reducible refine Calls.mono (part_ref _ _ _) ?_
       rintro e w' ⟨rfl, ⟨nd3, rfl⟩⟩
       have D1 := blk_drewN D0 nd3
       refine ⟨_, rfl, ?_⟩
       refine hK.out _ _ (⟨(cs8 D1).1, (cs8 D1).2.2.2.2.2.1, (cs8 D1).2.2.1⟩) (fun hHeld => ?_)
       clear hK K
       refine norm_ (a' := ?_) ?_ ?_
       rotate_left
       · show Act.put _ (some 103) _ = _
         simp only [Act.put, z1, z2, z3, i64_w, i32_w]
         rfl
       refine pure_ (i := 12) (N := some 108) (v := ?_) (a' := ?_) #[true, true, true, true, true, true, true, true, true, true, true, true, true, true, true, true, true, true, true, true, true, true, true, true, false, false, false, false] rfl rfl (any_of HT_.out (by kernel_rfl)) (fun _ _ _ h => h) (Or.inl ⟨by rfl, ?_⟩) ?_ ?_
       rotate_left
       · intro w'
         go_simp
         with_reducible rfl
       rotate_left
       · simp only [Act.put, z1, z2, z3, i64_w, i32_w]
         rfl
       refine one_ (i := 24) (N := some 120) #[true, true, true, true, true, true, true, true, true, true, true, true, true, true, true, true, true, true, true, true, true, true, true, true, true, false, false, false] rfl rfl (one_of HT_.out (by kernel_rfl)) (by decide) (fun K hK => ?_)
       refine goes_ Try.func29 (by kernel_rfl) rfl #[.int .i64 (wrap64 (wrap64 (c.kp * (ratioS off span)) / 65536 + I1)), .int .i64 (wrap64 (-c.li)), .int .i64 c.li] (by rfl) rfl rfl sl_ ?_
       with_reducible refine Calls.mono (clamp_ref _ _ _ _ (by rw [hwl]; exact HLI.out)) ?_
       rintro e w' ⟨rfl, ⟨nd4, rfl⟩⟩
       have D2 := blk_drewN D1 nd4
       refine ⟨_, rfl, ?_⟩
       refine hK.out _ _ (⟨(cs8 D2).1, (cs8 D2).2.2.2.2.2.1, (cs8 D2).2.2.1⟩) (fun hHeld => ?_)
       clear hK K
       refine norm_ (a' := ?_) ?_ ?_
       rotate_left
       · show Act.put _ (some 120) _ = _
         simp only [Act.put, z1, z2, z3, i64_w, i32_w]
         rfl
       refine pure_ (i := 25) (N := some 121) (v := ?_) (a' := ?_) #[true, true, true, true, true, true, true, true, true, true, true, true, true, true, true, true, true, true, true, true, true, true, true, true, true, true, false, false] rfl rfl (any_of HT_.out (by kernel_rfl)) (fun _ _ _ h => h) (Or.inl ⟨by rfl, ?_⟩) ?_ ?_
       rotate_left
       · intro w'
         go_simp
         with_reducible rfl
       rotate_left
       · simp only [Act.put, z1, z2, z3, i64_w, i32_w]
         rfl
       refine pure_ (i := 26) (N := some 122) (v := ?_) (a' := ?_) #[true, true, true, true, true, true, true, true, true, true, true, true, true, true, true, true, true, true, true, true, true, true, true, true, true, true, true, false] rfl rfl (any_of HT_.out (by kernel_rfl)) (fun _ _ _ h => h) (Or.inl ⟨by rfl, ?_⟩) ?_ ?_
       rotate_left
       · intro w'
         go_simp
         with_reducible rfl
       rotate_left
       · simp only [Act.put, z1, z2, z3, i64_w, i32_w]
         rfl
       refine last_ (i := 27) (N := none) #[true, true, true, true, true, true, true, true, true, true, true, true, true, true, true, true, true, true, true, true, true, true, true, true, true, true, true, true] rfl rfl (one_of HT_.out (by kernel_rfl)) (by decide) (fun K hK => ?_)
       have hce := (cs8 B4).2.2.2.2.2.2.2
       have hfe := blk_frozen B4 7
       refine skip_ (w1 := ?_) (by rfl) rfl ?_ ?_
       rotate_left
       · go_simp
         rfl
       refine hK.out _ _ ?_
       clear hK K
       refine done_ (done_of HT_.out (by kernel_rfl)) ?_
       have eF : mn (mx (wrap64 (wrap64 (c.kp * ratioS off span) / 65536 + I1)) (-c.li)) c.li = freqS c.kp c.li (ratioS off span) I1 := by unfold freqS; rw [hwl]
       rw [eF]
       clear eF
       generalize hF1 : freqS c.kp c.li (ratioS off span) I1 = F at *
       have B6 : ((w5.drewN (1 + nd3 + nd4)).setCell ⟨b, 7, none⟩ (.int .i64 F)).heap[b]? = some (rvo c ⟨I1, wrap64 (n + 1), F⟩) := blk_put (blk_drewN B4 _) 7 _ rfl
       have R6 := blk_far (blk_drewN R4 (1 + nd3 + nd4)) (p := ⟨b, 7, none⟩) (by simpa using Ne.symm hne) (.int .i64 F)
       have U6 := (U4.drewN (1 + nd3 + nd4)).set 7 (.int .i64 F)
       generalize (w5.drewN (1 + nd3 + nd4)).setCell ⟨b, 7, none⟩ (.int .i64 F) = w7 at *
       clear hce hfe D0 D1 D2 hHeld
       obtain ⟨c0, c1, c2, c3, c4, c5, c6, c7⟩ := cs8 B6
       obtain ⟨d0, d1⟩ := cs2 R6
       obtain ⟨g0, g1⟩ := fs2 R6
       go_wp2
       have R7 := blk_put R6 0 (.int .i64 1) rfl
       have B7 := blk_far B6 (p := ⟨w.heap.size, 0, none⟩) (by simpa using hne) (.int .i64 1)
       have R8 := blk_put R7 1 (.int .i64 F) rfl
       have B8 := blk_far B7 (p := ⟨w.heap.size, 1, none⟩) (by simpa using hne) (.int .i64 F)
       refine bodyPost_ret (results_ct rfl _ _ w.heap.size _ _ _ _ rfl R8 Try.underlying31 rfl (by kernel_rfl)) rfl ?_
       have U8 := (U6.far (g := w.heap.size) (Nat.le_refl _) 0 (.int .i64 1)).far (g := w.heap.size) (Nat.le_refl _) 1 (.int .i64 F)
       unfold act nxt
       rw [if_pos HH.out, if_neg hS, if_pos HH.out, if_neg hS]
       subst hF1
       subst hI1
       exact ⟨rfl, B8, U8⟩

set_option maxRecDepth 8000 in
set_option maxHeartbeats 8000000 in
theorem rsample_S10 (b : Nat) (c : Conf) (I n last : Int) (off span : Int) (w : World) (hb : w.heap[b]? = some (rvo c ⟨I, n, last⟩)) (hc : okC c.kp c.ki c.li c.sf c.sl) (h : inS off span) (hn : (n == 0) = true) (hz : ¬ off < 0) (ht : 0 < c.sf) (hs : c.sf < off) :
    Calls Try.prog 20 #[.pointer (some ⟨b, 0, none⟩), .int .i64 off, .int .i64 span] w fun e w' =>
      e = .returned (.tuple #[.agg #[.int .i64 (act c ⟨I, n, last⟩ off span).1, .int .i64 (act c ⟨I, n, last⟩ off span).2.1], .int .i64 (act c ⟨I, n, last⟩ off span).2.2]) ∧ w'.heap[b]? = some (rvo c (nxt c ⟨I, n, last⟩ off span)) ∧ Upd w w' b := by
  have hzz := hz
  have hz' : 0 ≤ off := by omega
  have ht' := ht
  have hlt := blk_lt hb
  have hli : wrap64 (-c.li) = -c.li ∧ -c.li ≤ c.li := by unfold okC at hc; exact ⟨w64_id (by omega) (by omega), by omega⟩
  have hwl := hli.1
  have HLI := Aside0.mk hli.2
  have hRat := Aside0.mk (fun W => ratio_ref off span W h)
  have B1 := blk_alloc hb (.cells #[.int .i64 0, .int .i64 0] 31)
  have R1 := blk_new w (.cells #[.int .i64 0, .int .i64 0] 31)
  have B0 : (w.setCell ⟨b, 6, none⟩ (.int .i64 (wrap64 (n + 1)))).heap[b]? = some (rvo c ⟨I, wrap64 (n + 1), last⟩) := blk_put hb 6 _ rfl
  have B2 := blk_alloc B0 (.cells #[.int .i64 0, .int .i64 0] 31)
  have U2 : Upd w ((w.setCell ⟨b, 6, none⟩ (.int .i64 (wrap64 (n + 1)))).alloc (.cells #[.int .i64 0, .int .i64 0] 31)) b := ((Upd.refl w b).set 6 _).alloc _
  have R2 := blk_new (w.setCell ⟨b, 6, none⟩ (.int .i64 (wrap64 (n + 1)))) (.cells #[.int .i64 0, .int .i64 0] 31)
  have hsz : (w.setCell ⟨b, 6, none⟩ (.int .i64 (wrap64 (n + 1)))).heap.size = w.heap.size := by simp [World.setCell]
  rw [hsz] at R2
  clear hsz
  obtain ⟨c0, c1, c2, c3, c4, c5, c6, c7⟩ := cs8 B1
  obtain ⟨f0, f1, f2, f3, f4, f5, f6, f7⟩ := fs8 B1
  have hne : b ≠ w.heap.size := by omega
  have e1' : ¬ (off < -1125899906842624) := by unfold inS at h; omega
  have e2' : ¬ (1125899906842624 < off) := by unfold inS at h; omega
  have e3' : ¬ (span < 1) := by unfold inS at h; omega
  have e4' : ¬ (1125899906842624 < span) := by unfold inS at h; omega
  have HB := Aside0.mk B2
  have HR := Aside0.mk R2
  have HU := Aside0.mk U2
  have HH := Aside0.mk h
  clear B2 R2 U2 B0 h hc hli
  go_enter Try.func20, Try.ntmps20
  go_wp2_with (first
    | (go_at_call 28
       with_reducible refine Calls.mono (hRat.out _) ?_
       rintro e w' ⟨rfl, ⟨nd, rfl⟩⟩
       have B3 := blk_drewN HB.out nd
       have R3 := blk_drewN HR.out nd
       have U3 := HU.out.drewN nd
       generalize ((w.setCell ⟨b, 6, none⟩ (.int .i64 (wrap64 (n + 1)))).alloc (.cells #[.int .i64 0, .int .i64 0] 31)).drewN nd = w3 at *))
  all_goals first
    | (have hS : stepsS c.sf c.sl n off := by
         unfold stepsS thrS
         rw [abs_mx]
         first
           | exact steps_ref1 (by assumption) (by assumption) (by assumption) (by assumption)
           | exact steps_ref2 (by assumption) (by assumption) (by assumption) (by assumption)
           | exact steps_ref3 (by assumption) (by assumption) (by assumption) (by assumption)
           | exact steps_ref4 (by assumption) (by assumption) (by assumption) (by assumption)
       have hsz7 : (w.setCell ⟨b, 6, none⟩ (.int .i64 (wrap64 (n + 1)))).heap.size = w.heap.size := by simp [World.setCell]
       have R7 := blk_new (w.setCell ⟨b, 6, none⟩ (.int .i64 (wrap64 (n + 1)))) (.cells #[.int .i64 2, .int .i64 off] 31)
       rw [hsz7] at R7
       have B0 : (w.setCell ⟨b, 6, none⟩ (.int .i64 (wrap64 (n + 1)))).heap[b]? = some (rvo c ⟨I, wrap64 (n + 1), last⟩) := blk_put hb 6 _ rfl
       have B7 := blk_alloc B0 (.cells #[.int .i64 2, .int .i64 off] 31)
       refine bodyPost_ret (results_ct rfl _ _ w.heap.size _ _ _ _ rfl R7 Try.underlying31 rfl (by kernel_rfl)) rfl ?_
       have U7 := ((Upd.refl w b).set 6 (.int .i64 (wrap64 (n + 1)))).alloc (.cells #[.int .i64 2, .int .i64 off] 31)
       unfold act nxt
       rw [if_pos HH.out, if_pos hS, if_pos HH.out, if_pos hS]
       exact ⟨rfl, B7, U7⟩)

end Go.Proofs.Ytimcdiombljajaa.Sv
