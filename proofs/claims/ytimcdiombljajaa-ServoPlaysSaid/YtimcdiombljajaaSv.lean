/- The servo's functions, walked: what each call does to the servo's block. -/
import Derived.Test.YtimcdiombljajaaPAllx0
import Derived.Test.YtimcdiombljajaaPAllx39
import Derived.StillTailTactics
import Derived.Handy
namespace Go.Proofs.Ytimcdiombljajaa.Sv
open Go Go.RowKit Go.Proofs.YtimcdiombljajaaW.PrintWords Go.Proofs.YtimcdiombljajaaW.PrintLast Go.Proofs.YtimcdiombljajaaW.PrintMore Go.Proofs.Ytimcdiombljajaa.PAll
attribute [local go_sem] max2_int min2_int max_two min_two max_three min_three max_four min_four
set_option linter.unusedVariables false
set_option linter.unusedSimpArgs false

/-- From w to w' nothing has turned but block b, and what is new. -/
structure Upd (w w' : World) (b : Nat) : Prop where
  os : w'.os = w.os
  tape : w'.tape = w.tape
  output : w'.output = w.output
  size : w.heap.size ≤ w'.heap.size
  block : ∀ k, k < w.heap.size → k ≠ b → w'.heap[k]? = w.heap[k]?
theorem Upd.refl (w : World) (b : Nat) : Upd w w b := ⟨rfl, rfl, rfl, Nat.le_refl _, fun _ _ _ => rfl⟩
theorem Upd.trans {w w1 w2 : World} {b : Nat} (h : Upd w w1 b) (k : Upd w1 w2 b) : Upd w w2 b :=
  ⟨k.os.trans h.os, k.tape.trans h.tape, k.output.trans h.output, Nat.le_trans h.size k.size, fun i hi hb => (k.block i (Nat.lt_of_lt_of_le hi h.size) hb).trans (h.block i hi hb)⟩
theorem Upd.of_below {w w1 : World} {b : Nat} (h : Below w.heap.size w w1) : Upd w w1 b := ⟨h.os, h.tape, h.output, h.size, fun i hi _ => h.block i hi⟩
theorem Upd.below {w w1 : World} {b : Nat} {B : Nat} {w0 : World} (h : Below B w0 w) (k : Upd w w1 b) (hB : B ≤ b) (hs : B ≤ w.heap.size) : Below B w0 w1 :=
  h.trans ⟨k.os, k.tape, k.output, k.size, fun i hi => k.block i (Nat.lt_of_lt_of_le hi hs) (by omega)⟩
theorem Upd.drew {w w1 : World} {b : Nat} (h : Upd w w1 b) : Upd w w1.drew b := ⟨h.os, h.tape, h.output, h.size, h.block⟩
theorem Upd.drewN {w w1 : World} {b : Nat} (h : Upd w w1 b) (n : Nat) : Upd w (w1.drewN n) b := ⟨h.os, h.tape, h.output, h.size, h.block⟩
theorem Upd.alloc {w w1 : World} {b : Nat} (h : Upd w w1 b) (o : Obj) : Upd w (w1.alloc o) b :=
  h.trans (Upd.of_below ((Below.refl _ _).alloc (Nat.le_refl _) o))
theorem Upd.set {w w1 : World} {b : Nat} (h : Upd w w1 b) (i : Nat) (u : Value) : Upd w (w1.setCell ⟨b, i, none⟩ u) b :=
  ⟨h.os, h.tape, h.output, by simpa [World.setCell] using h.size, fun k hk hb => (Below.heap_setCell w1 ⟨b, i, none⟩ u k hb).trans (h.block k hk hb)⟩
theorem Upd.far {w w1 : World} {b : Nat} (h : Upd w w1 b) {g : Nat} (hg : w.heap.size ≤ g) (i : Nat) (u : Value) : Upd w (w1.setCell ⟨g, i, none⟩ u) b :=
  ⟨h.os, h.tape, h.output, by simpa [World.setCell] using h.size, fun k hk hb => (Below.heap_setCell w1 ⟨g, i, none⟩ u k (by show k ≠ g; omega)).trans (h.block k hk hb)⟩
theorem Upd.blk {w w1 : World} {b g : Nat} {o : Obj} (h : Upd w w1 b) (hg : w.heap[g]? = some o) (hne : g ≠ b) : w1.heap[g]? = some o := (h.block g (blk_lt hg) hne).trans hg

/-- a servo's block: the configuration's five numbers, the integral, the number of samples, the last frequency -/
def sv (T : TypeId) (kp ki li sf sl I n last : Int) : Obj := .cells #[.int .i64 kp, .int .i64 ki, .int .i64 li, .int .i64 sf, .int .i64 sl, .int .i64 I, .int .i64 n, .int .i64 last] T (0, 0)

set_option maxHeartbeats 400000 in
theorem clamp_any (n lo hi : Int) (w : World) :
    Calls Try.prog 32 #[.int .i64 n, .int .i64 lo, .int .i64 hi] w fun e w' => e = .returned (.int .i64 (mn (mx n lo) hi)) ∧ w = w' := by
  unfold mn mx
  go_enter Try.func32, Try.ntmps32
  go_wp2
  all_goals (go_ret; refine ⟨?_, rfl⟩; simp [*])

set_option maxHeartbeats 400000 in
theorem step_any (p : Value) (off span : Int) (w : World) :
    Calls Try.prog 27 #[p, .int .i64 off, .int .i64 span] w fun e w' => e = .returned (.agg #[.int .i64 2, .int .i64 off]) ∧ Below w.heap.size w w' := by
  go_enter Try.func27, Try.ntmps27
  go_wp2
  go_returns
  exact ⟨rfl, (Below.refl _ _).alloc (Nat.le_refl _) _⟩

theorem clamp_still (n lo hi : Int) (w : World) :
    Calls Try.prog 32 #[.int .i64 n, .int .i64 lo, .int .i64 hi] w fun e w' => e = .returned (.int .i64 (mn (mx n lo) hi)) ∧ w' = w :=
  (clamp_any n lo hi w).mono fun _ _ ⟨h, k⟩ => ⟨h, k.symm⟩

/-- A world in which answers have been drawn, and nothing else has turned. -/
structure Drawn1 (w w2 : World) : Prop where
  heap : w2.heap = w.heap
  os : w2.os = w.os
  tape : w2.tape = w.tape
  output : w2.output = w.output
theorem Drawn1.upd {w w2 : World} (h : Drawn1 w w2) (b : Nat) : Upd w w2 b := ⟨h.os, h.tape, h.output, by rw [h.heap]; exact Nat.le_refl _, fun k _ _ => by rw [h.heap]⟩
theorem Drawn1.blk {w w2 : World} (h : Drawn1 w w2) {g : Nat} {o : Obj} (hg : w.heap[g]? = some o) : w2.heap[g]? = some o := by rw [h.heap]; exact hg
theorem region_still_tail {P : Program} {id : Nat} {Q : Exit → Act → World → Prop} {a : Act} {w : World} {l : List Oper} (n : Nat) (hm : P.follows .mixedOrders = true) (hB : Region.lexTailB .any l.toArray n = true)
    (h : ∀ w2, Drawn1 w w2 → wpStill P l.toArray w2 (fun a' => wpList P l.toArray Q (l.drop n) a' w2) (l.take n) a) : (Code.region id l.toArray true).wp P Q a w :=
  wp_region_still_tail n hm hB (h _ ⟨rfl, rfl, rfl, rfl⟩)

/-- what the integral becomes; what the frequency becomes -/
def intS (ki li I e : Int) : Int := mn (mx (wrap64 (I + wrap64 (ki * e) / 65536)) (wrap64 (-li))) li
def freqS (kp li e I : Int) : Int := mn (mx (wrap64 (wrap64 (kp * e) / 65536 + I)) (wrap64 (-li))) li

/-- One result that lies in memory. -/
theorem results_c {P : Program} {fn : Func} {p : Tmp} {ty : TypeId} (h : fn.results = #[.cell p ty]) (tmps : Array Value) (w : World) (g : Nat) (t : TypeId) (cs : Array Value) (fr : Nat × Nat) (d : TypeDesc)
    (hp : tmps.getD p undef = .pointer (some ⟨g, 0, none⟩)) (hg : w.heap[g]? = some (.cells cs t fr))
    (hu : P.underlying ty = some d) (hd : (match d with | .struct _ | .array _ _ => true | _ => false) = true) (hi : (P.info? ty).map (·.size) = some cs.size) :
    (results fn tmps).run P w = .ok (.agg cs) w := by
  have hp' : tmps[p]?.getD undef = .pointer (some ⟨g, 0, none⟩) := by simpa using hp
  simp [results, h, hp', asAddr, run_loadVar_row w g t ty cs fr d hg hu hd hi]

set_option maxHeartbeats 1000000 in
theorem steer_any (b : Nat) (kp ki li sf sl I n last off span q e1 : Int) (ok : Bool) (k : Nat) (w : World) (hb : w.heap[b]? = some (sv 50 kp ki li sf sl I n last)) (hm : fixed_MulDiv.f k off 1000000000 span = some (q, ok))
    (he : mn (mx (if ok = true then q else if 0 < off then 1000000000 else -1000000000) (-1000000000)) 1000000000 = e1) :
    Calls Try.prog 26 #[.pointer (some ⟨b, 0, none⟩), .int .i64 off, .int .i64 span] w fun e w' => e = .returned (.agg #[.int .i64 1, .int .i64 (freqS kp li e1 (intS ki li I e1))]) ∧ w'.heap[b]? = some (sv 50 kp ki li sf sl (intS ki li I e1) n (freqS kp li e1 (intS ki li I e1))) ∧ Upd w w' b := by
  have HM := Aside0.mk hm
  clear hm
  have HE := Aside0.mk he
  clear he
  have hlt := blk_lt hb
  go_enter Try.func26, Try.ntmps26
  go_wp2_with (first | (go_at_call 31; refine (fixed_MulDiv.calls k off 1000000000 span q ok _ HM.out).mono ?_; rintro e w' ⟨rfl, ⟨nd, rfl⟩⟩) | (go_at_call 32; refine (clamp_any _ _ _ _).mono ?_; rintro e w' ⟨rfl, rfl⟩))
  all_goals
    have U1 : Upd w ((w.alloc (.cells #[.int .i64 0, .int .i64 0] 31)).drewN nd) b := ((Upd.refl w b).alloc _).drewN nd
    have B1 : ((w.alloc (.cells #[.int .i64 0, .int .i64 0] 31)).drewN nd).heap[b]? = some (sv 50 kp ki li sf sl I n last) := blk_drewN (blk_alloc hb _) nd
    have R1 : ((w.alloc (.cells #[.int .i64 0, .int .i64 0] 31)).drewN nd).heap[w.heap.size]? = some (.cells #[.int .i64 0, .int .i64 0] 31 (0, 0)) := blk_drewN (blk_new w _) nd
    generalize (w.alloc (.cells #[.int .i64 0, .int .i64 0] 31)).drewN nd = w1 at *
    generalize hrs : w.heap.size = rs at *
    have hne : b ≠ rs := by omega
    generalize hv : mn (mx _ (-1000000000)) 1000000000 = v1
    have hve : v1 = e1 := by
      first
        | (rw [← HE.out, ← hv]; simp [*]; done)
        | (rw [← HE.out, ← hv]; have hn : ¬ (0 < off) := by omega
           simp [hn, *]; done)
        | (rw [← HE.out, ← hv]; have hn : ¬ (0 < off) := by omega
           rw [if_neg (by assumption), if_neg hn]; done)
    subst hve
    clear hv HE
    refine region_still_tail 28 (by kernel_rfl) (by kernel_rfl) ?_
    intro w2 hd2
    have U2 := U1.trans (hd2.upd b)
    have B2 := hd2.blk B1
    have R2 := hd2.blk R1
    clear hd2 U1 B1 R1 w1
    obtain ⟨c0, c1, c2, c3, c4, c5, c6, c7⟩ := cs8 B2
    obtain ⟨f0, f1, f2, f3, f4, f5, f6, f7⟩ := fs8 B2
    simp only [List.take_succ_cons, List.take_zero, List.drop_succ_cons, List.drop_zero]
    repeat still_step
    still_call (clamp_still _ _ _ _)
    repeat still_step
    refine wpStill_nil ?_
    go_wp2
    have eI : mn (mx (wrap64 (I + wrap64 (ki * v1) / 65536)) (wrap64 (-li))) li = intS ki li I v1 := rfl
    rw [eI]
    clear eI
    generalize hI : intS ki li I v1 = I1
    have U3 := U2.set 5 (.int .i64 I1)
    have B3 : (w2.setCell ⟨b, 5, none⟩ (.int .i64 I1)).heap[b]? = some (sv 50 kp ki li sf sl I1 n last) := blk_put B2 5 _ rfl
    have R3 : (w2.setCell ⟨b, 5, none⟩ (.int .i64 I1)).heap[rs]? = some (.cells #[.int .i64 0, .int .i64 0] 31 (0, 0)) := blk_far R2 (by simpa using Ne.symm hne) _
    generalize w2.setCell ⟨b, 5, none⟩ (.int .i64 I1) = w3 at *
    clear c0 c1 c2 c3 c4 c5 c6 c7 f0 f1 f2 f3 f4 f5 f6 f7 U2 B2 R2 w2
    refine region_still_tail 28 (by kernel_rfl) (by kernel_rfl) ?_
    intro w4 hd4
    have U4 := U3.trans (hd4.upd b)
    have B4 := hd4.blk B3
    have R4 := hd4.blk R3
    clear hd4 U3 B3 R3 w3
    obtain ⟨c0, c1, c2, c3, c4, c5, c6, c7⟩ := cs8 B4
    obtain ⟨f0, f1, f2, f3, f4, f5, f6, f7⟩ := fs8 B4
    obtain ⟨d0, d1⟩ := cs2 R4
    obtain ⟨g0, g1⟩ := fs2 R4
    simp only [List.take_succ_cons, List.take_zero, List.drop_succ_cons, List.drop_zero]
    repeat still_step
    still_call (clamp_still _ _ _ _)
    repeat still_step
    refine wpStill_nil ?_
    go_wp2
    have eF : mn (mx (wrap64 (wrap64 (kp * v1) / 65536 + I1)) (wrap64 (-li))) li = freqS kp li v1 I1 := rfl
    rw [eF]
    clear eF
    generalize hF : freqS kp li v1 I1 = F
    have U5 := U4.set 7 (.int .i64 F)
    have B5 : (w4.setCell ⟨b, 7, none⟩ (.int .i64 F)).heap[b]? = some (sv 50 kp ki li sf sl I1 n F) := blk_put B4 7 _ rfl
    have R5 : (w4.setCell ⟨b, 7, none⟩ (.int .i64 F)).heap[rs]? = some (.cells #[.int .i64 0, .int .i64 0] 31 (0, 0)) := blk_far R4 (by simpa using Ne.symm hne) _
    generalize w4.setCell ⟨b, 7, none⟩ (.int .i64 F) = w5 at *
    have R6 := blk_put R5 0 (.int .i64 1) rfl
    have B6 := blk_far B5 (p := ⟨rs, 0, none⟩) (by simpa using hne) (.int .i64 1)
    have R7 := blk_put R6 1 (.int .i64 F) rfl
    have B7 := blk_far B6 (p := ⟨rs, 1, none⟩) (by simpa using hne) (.int .i64 F)
    refine bodyPost_ret (results_c rfl _ _ rs _ _ _ _ rfl R7 Try.underlying31 rfl (by kernel_rfl)) rfl ?_
    have U7 := (U5.far (g := rs) (by omega) 0 (.int .i64 1)).far (g := rs) (by omega) 1 (.int .i64 F)
    subst hF
    subst hI
    exact ⟨rfl, B7, U7⟩

end Go.Proofs.Ytimcdiombljajaa.Sv
