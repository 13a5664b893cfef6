/- The reference's servo: what each call does to its block. -/
import Derived.Test.YtimcdiombljajaaServoAgain
import Derived.Test.YtimcdiombljajaaMulRef
import Derived.Test.YtimcdiombljajaaPAllx21
import Derived.Test.YtimcdiombljajaaPAllx23
namespace Go.Proofs.Ytimcdiombljajaa.Sv
open Go Go.RowKit Go.Proofs.YtimcdiombljajaaW.PrintWords Go.Proofs.YtimcdiombljajaaW.PrintLast Go.Proofs.YtimcdiombljajaaW.PrintMore Go.Proofs.Ytimcdiombljajaa.PAll Go.Proofs.Ytimcdiombljajaa.PureDiv
attribute [local go_sem] max2_int min2_int max_two min_two max_three min_three max_four min_four
set_option linter.unusedVariables false
set_option linter.unusedSimpArgs false

theorem wrap_eq (x : Int) : IntKind.i64.wrap x = wrap64 x := by
  unfold wrap64; exact IntKind.wrap_i64 x
theorem Clamp_tells (n lo hi : Int) (h : lo ≤ hi) : timesyncref01_Clamp.f n lo hi = some (mn (mx n lo) hi) := by
  unfold timesyncref01_Clamp.f mn mx
  by_cases h1 : n < lo
  · rw [if_pos h1, if_pos h1, if_neg (by omega)]
  · rw [if_neg h1, if_neg h1]
    by_cases h2 : n > hi
    · rw [if_pos h2, if_pos (by omega)]
    · rw [if_neg h2, if_neg (by omega)]
theorem md_one (x : Int) (h0 : -9223372036854775808 ≤ x) (h1 : x ≤ 9223372036854775807) : md x 1 65536 = (x / 65536, true) := by
  unfold md
  rw [Int.mul_one, if_pos (by omega)]
theorem part_tells (g e : Int) : timesyncref12_part.f 130 g e = some (wrap64 (g * e) / 65536) := by
  have hb : -9223372036854775808 ≤ wrap64 (g * e) ∧ wrap64 (g * e) ≤ 9223372036854775807 := by unfold wrap64; omega
  unfold timesyncref12_part.f timesyncref01_Floor.f
  rw [rMulDiv_tells (wrap64 (g * e)) 1 65536 hb.1 hb.2 (by decide) (by decide) (by decide) (by decide) 130 (Nat.le_refl _), md_one _ hb.1 hb.2]
  rfl
theorem ratio_tells (off span : Int) (h : inS off span) : timesyncref12_ratio.f 130 off span = some (ratioS off span) := by
  unfold inS at h
  unfold timesyncref12_ratio.f
  rw [rMulDiv_tells off 1000000000 span (by omega) (by omega) (by decide) (by decide) (by omega) (by omega) 130 (Nat.le_refl _)]
  simp only [Option.bind_some]
  have hz : (md off 1000000000 span).2 = false → off ≠ 0 := by
    intro h2 h3
    subst h3
    unfold md at h2
    rw [Int.zero_mul, Int.zero_ediv, if_pos (by decide)] at h2
    cases h2
  unfold ratioS
  rcases hmd : md off 1000000000 span with ⟨q, ok⟩
  rw [hmd] at hz
  dsimp only at hz ⊢
  cases ok
  · have hz := hz rfl
    rw [if_neg (by decide), if_neg (by decide)]
    simp only [timesyncref12_ratio.j0]
    by_cases hn : off < 0
    · rw [decide_eq_true hn, if_pos rfl, if_neg (by decide), if_neg (by omega), Clamp_tells _ _ _ (by decide), if_neg (by omega)]
      rfl
    · rw [decide_eq_false hn, if_neg (by decide), if_neg (by decide), if_pos (by omega), Clamp_tells _ _ _ (by decide), if_pos (by omega)]
      rfl
  · simp only [timesyncref12_ratio.j0, if_true]
    rw [if_neg (by decide), Clamp_tells _ _ _ (by decide)]
    rfl

theorem clamp_ref (n lo hi : Int) (w : World) (h : lo ≤ hi) : Calls Try.prog 29 #[.int .i64 n, .int .i64 lo, .int .i64 hi] w fun e w' => e = .returned (.int .i64 (mn (mx n lo) hi)) ∧ Drawn0 w w' :=
  timesyncref01_Clamp.calls n lo hi _ w (Clamp_tells n lo hi h)
theorem part_ref (g e : Int) (w : World) : Calls Try.prog 30 #[.int .i64 g, .int .i64 e] w fun e' w' => e' = .returned (.int .i64 (wrap64 (g * e) / 65536)) ∧ Drawn0 w w' :=
  timesyncref12_part.calls 130 g e _ w (part_tells g e)
theorem ratio_ref (off span : Int) (w : World) (h : inS off span) : Calls Try.prog 28 #[.int .i64 off, .int .i64 span] w fun e w' => e = .returned (.int .i64 (ratioS off span)) ∧ Drawn0 w w' :=
  timesyncref12_ratio.calls 130 off span _ w (ratio_tells off span h)

def rvo (c : Conf) (s : St) : Obj := sv 53 c.kp c.ki c.li c.sf c.sl s.I s.n s.last

set_option maxHeartbeats 1000000 in
theorem rfreq_svo (b : Nat) (c : Conf) (I n last : Int) (w : World) (hb : w.heap[b]? = some (rvo c ⟨I, n, last⟩)) :
    Calls Try.prog 23 #[.pointer (some ⟨b, 0, none⟩)] w fun e w' => e = .returned (.int .i64 last) ∧ w = w' := by
  obtain ⟨c0, c1, c2, c3, c4, c5, c6, c7⟩ := cs8 hb
  go_enter Try.func23, Try.ntmps23
  go_wp2
  all_goals (go_ret; exact ⟨rfl, rfl⟩)
set_option maxHeartbeats 1000000 in
theorem rsamples_svo (b : Nat) (c : Conf) (I n last : Int) (w : World) (hb : w.heap[b]? = some (rvo c ⟨I, n, last⟩)) :
    Calls Try.prog 25 #[.pointer (some ⟨b, 0, none⟩)] w fun e w' => e = .returned (.int .i64 n) ∧ w = w' := by
  obtain ⟨c0, c1, c2, c3, c4, c5, c6, c7⟩ := cs8 hb
  go_enter Try.func25, Try.ntmps25
  go_wp2
  all_goals (go_ret; exact ⟨rfl, rfl⟩)
set_option maxHeartbeats 1000000 in
theorem rreset_svo (b : Nat) (c : Conf) (I n last : Int) (w : World) (hb : w.heap[b]? = some (rvo c ⟨I, n, last⟩)) :
    Calls Try.prog 22 #[.pointer (some ⟨b, 0, none⟩)] w fun e w' => e = .returned (.tuple #[]) ∧ w'.heap[b]? = some (rvo c ⟨0, 0, last⟩) ∧ Upd w w' b := by
  obtain ⟨c0, c1, c2, c3, c4, c5, c6, c7⟩ := cs8 hb
  obtain ⟨f0, f1, f2, f3, f4, f5, f6, f7⟩ := fs8 hb
  have B1 : (w.setCell ⟨b, 5, none⟩ (.int .i64 0)).heap[b]? = some (rvo c ⟨0, n, last⟩) := blk_put hb 5 _ rfl
  have B2 : ((w.setCell ⟨b, 5, none⟩ (.int .i64 0)).setCell ⟨b, 6, none⟩ (.int .i64 0)).heap[b]? = some (rvo c ⟨0, 0, last⟩) := blk_put B1 6 _ rfl
  have U2 := ((Upd.refl w b).set 5 (.int .i64 0)).set 6 (.int .i64 0)
  go_enter Try.func22, Try.ntmps22
  go_wp2
  all_goals
    first | go_end0 | ((try simp only [Exit.inBlock, Exit.then]); refine bodyPost_ret (results_none rfl _ _ _) rfl ?_)
    exact ⟨rfl, B2, U2⟩
set_option maxHeartbeats 1000000 in
theorem rnil_freq (w : World) : Calls Try.prog 23 #[.pointer none] w fun e w' => e = .returned (.int .i64 0) ∧ w = w' := by
  go_enter Try.func23, Try.ntmps23
  go_wp2
  all_goals (go_ret; exact ⟨rfl, rfl⟩)
set_option maxRecDepth 8000 in
set_option maxHeartbeats 1000000 in
theorem rnil_samples (w : World) : Calls Try.prog 25 #[.pointer none] w fun e w' => e = .returned (.int .i64 0) ∧ w = w' := by
  go_enter Try.func25, Try.ntmps25
  go_wp2
  all_goals (go_ret; exact ⟨rfl, rfl⟩)
set_option maxHeartbeats 1000000 in
theorem rnil_reset (w : World) : Calls Try.prog 22 #[.pointer none] w fun e w' => e = .returned (.tuple #[]) ∧ w = w' := by
  go_enter Try.func22, Try.ntmps22
  go_wp2
  all_goals
    first | go_end0 | ((try simp only [Exit.inBlock, Exit.then]); refine bodyPost_ret (results_none rfl _ _ _) rfl ?_)
    exact ⟨rfl, rfl⟩
set_option maxRecDepth 8000 in
set_option maxHeartbeats 1000000 in
theorem rnil_sample (off span : Int) (w : World) :
    Calls Try.prog 20 #[.pointer none, .int .i64 off, .int .i64 span] w fun e w' => e = .returned (.tuple #[.agg #[.int .i64 0, .int .i64 0], .int .i64 1]) ∧ Below w.heap.size w w' := by
  have R1 := blk_new w (.cells #[.int .i64 0, .int .i64 0] 31)
  have U1 : Below w.heap.size w (w.alloc (.cells #[.int .i64 0, .int .i64 0] 31)) := (Below.refl _ _).alloc (Nat.le_refl _) _
  go_enter Try.func20, Try.ntmps20
  go_wp2
  all_goals
    generalize w.alloc (.cells #[.int .i64 0, .int .i64 0] 31) = w1 at *
    refine bodyPost_ret (results_ct rfl _ _ w.heap.size _ _ _ _ rfl R1 Try.underlying31 rfl (by kernel_rfl)) rfl ?_
    exact ⟨rfl, U1⟩

set_option maxHeartbeats 1000000 in
theorem rnew_ok (c : Conf) (w : World) (h : okC c.kp c.ki c.li c.sf c.sl) :
    Calls Try.prog 19 #[.agg #[.int .i64 c.kp, .int .i64 c.ki, .int .i64 c.li, .int .i64 c.sf, .int .i64 c.sl]] w fun e w' =>
      ∃ g, w.heap.size ≤ g ∧ e = .returned (.pointer (some ⟨g, 0, none⟩)) ∧ w'.heap[g]? = some (rvo c ⟨0, 0, 0⟩) ∧ Below w.heap.size w w' := by
  have hC := rcheck_any c.kp c.ki c.li c.sf c.sl
  simp only [if_pos h] at hC
  replace hC := Aside0.mk hC
  clear h
  have R1 := blk_new w (.cells #[.int .i64 c.kp, .int .i64 c.ki, .int .i64 c.li, .int .i64 c.sf, .int .i64 c.sl] 23)
  obtain ⟨c0, c1, c2, c3, c4⟩ := cs5 R1
  have U1 : Below w.heap.size w (w.alloc (.cells #[.int .i64 c.kp, .int .i64 c.ki, .int .i64 c.li, .int .i64 c.sf, .int .i64 c.sl] 23)) := (Below.refl _ _).alloc (Nat.le_refl _) _
  go_enter Try.func19, Try.ntmps19
  go_wp2_with (first
    | (go_at_call 12
       with_reducible refine Calls.mono (hC.out _) ?_
       rintro e w' ⟨rfl, hbel⟩
       have R2 := blk_below R1 hbel
       have U2 := U1.trans (hbel.mono (by simp))
       obtain ⟨d0, d1, d2, d3, d4⟩ := cs5 R2))
  all_goals
    have R3 := blk_new w' (.cells #[.int .i64 c.kp, .int .i64 c.ki, .int .i64 c.li, .int .i64 c.sf, .int .i64 c.sl, .int .i64 0, .int .i64 0, .int .i64 0] 53)
    have U3 := U2.alloc U2.size (.cells #[.int .i64 c.kp, .int .i64 c.ki, .int .i64 c.li, .int .i64 c.sf, .int .i64 c.sl, .int .i64 0, .int .i64 0, .int .i64 0] 53)
    go_ret
    exact ⟨_, U2.size, rfl, R3, U3⟩
set_option maxHeartbeats 1000000 in
theorem rnew_no (c : Conf) (w : World) (h : ¬ okC c.kp c.ki c.li c.sf c.sl) :
    Calls Try.prog 19 #[.agg #[.int .i64 c.kp, .int .i64 c.ki, .int .i64 c.li, .int .i64 c.sf, .int .i64 c.sl]] w fun e w' => e = .returned (.pointer none) ∧ Below w.heap.size w w' := by
  have hC := rcheck_any c.kp c.ki c.li c.sf c.sl
  simp only [if_neg h] at hC
  replace hC := Aside0.mk hC
  clear h
  have R1 := blk_new w (.cells #[.int .i64 c.kp, .int .i64 c.ki, .int .i64 c.li, .int .i64 c.sf, .int .i64 c.sl] 23)
  obtain ⟨c0, c1, c2, c3, c4⟩ := cs5 R1
  have U1 : Below w.heap.size w (w.alloc (.cells #[.int .i64 c.kp, .int .i64 c.ki, .int .i64 c.li, .int .i64 c.sf, .int .i64 c.sl] 23)) := (Below.refl _ _).alloc (Nat.le_refl _) _
  go_enter Try.func19, Try.ntmps19
  go_wp2_with (first
    | (go_at_call 12
       with_reducible refine Calls.mono (hC.out _) ?_
       rintro e w' ⟨rfl, hbel⟩
       have R2 := blk_below R1 hbel
       have U2 := U1.trans (hbel.mono (by simp))
       obtain ⟨d0, d1, d2, d3, d4⟩ := cs5 R2))
  all_goals (go_ret; exact ⟨rfl, U2⟩)

set_option maxRecDepth 8000 in
set_option maxHeartbeats 2000000 in
theorem rsample_range (b : Nat) (c : Conf) (s : St) (off span : Int) (w : World) (hb : w.heap[b]? = some (rvo c s)) (h : ¬ inS off span) :
    Calls Try.prog 20 #[.pointer (some ⟨b, 0, none⟩), .int .i64 off, .int .i64 span] w fun e w' => e = .returned (.tuple #[.agg #[.int .i64 0, .int .i64 0], .int .i64 3]) ∧ w'.heap[b]? = some (rvo c s) ∧ Upd w w' b := by
  have hlt := blk_lt hb
  have hr : off < -1125899906842624 ∨ 1125899906842624 < off ∨ span < 1 ∨ 1125899906842624 < span := by unfold inS at h; omega
  clear h
  have B1 := blk_alloc hb (.cells #[.int .i64 0, .int .i64 0] 31)
  have R1 := blk_new w (.cells #[.int .i64 0, .int .i64 0] 31)
  have U1 := (Upd.refl w b).alloc (.cells #[.int .i64 0, .int .i64 0] 31)
  have hne : b ≠ w.heap.size := by omega
  go_enter Try.func20, Try.ntmps20
  go_wp2
  all_goals
    generalize w.alloc (.cells #[.int .i64 0, .int .i64 0] 31) = w1 at *
    refine bodyPost_ret (results_ct rfl _ _ w.heap.size _ _ _ _ rfl R1 Try.underlying31 rfl (by kernel_rfl)) rfl ?_
    exact ⟨rfl, B1, U1⟩

section
variable {sf sl n off : Int}
theorem steps_ref1 (hn : (n == 0) = true) (hz : off < 0) (h0 : 0 < sf) (h1 : sf < -off) : 0 < (if n = 0 then sf else sl) ∧ (if n = 0 then sf else sl) < (if off < 0 then -off else off) := by
  have hn' : n = 0 := by simpa using hn
  rw [if_pos hn', if_pos hz]; exact ⟨h0, h1⟩
theorem steps_ref2 (hn : (n == 0) = true) (hz : 0 ≤ off) (h0 : 0 < sf) (h1 : sf < off) : 0 < (if n = 0 then sf else sl) ∧ (if n = 0 then sf else sl) < (if off < 0 then -off else off) := by
  have hn' : n = 0 := by simpa using hn
  rw [if_pos hn', if_neg (by omega)]; exact ⟨h0, h1⟩
theorem steps_ref3 (hn : (n == 0) = false) (hz : off < 0) (h0 : 0 < sl) (h1 : sl < -off) : 0 < (if n = 0 then sf else sl) ∧ (if n = 0 then sf else sl) < (if off < 0 then -off else off) := by
  have hn' : ¬ n = 0 := by simpa using hn
  rw [if_neg hn', if_pos hz]; exact ⟨h0, h1⟩
theorem steps_ref4 (hn : (n == 0) = false) (hz : 0 ≤ off) (h0 : 0 < sl) (h1 : sl < off) : 0 < (if n = 0 then sf else sl) ∧ (if n = 0 then sf else sl) < (if off < 0 then -off else off) := by
  have hn' : ¬ n = 0 := by simpa using hn
  rw [if_neg hn', if_neg (by omega)]; exact ⟨h0, h1⟩
theorem abs_mx (off : Int) : mx off (-off) = if off < 0 then -off else off := by unfold mx; split <;> split <;> omega
end

section
variable {sf sl n off : Int}
theorem rest_ref1 (hn : (n == 0) = true) (hz : off < 0) (h1 : -off ≤ sf) : ¬ (0 < (if n = 0 then sf else sl) ∧ (if n = 0 then sf else sl) < (if off < 0 then -off else off)) := by
  have hn' : n = 0 := by simpa using hn
  rw [if_pos hn', if_pos hz]; omega
theorem rest_ref2 (hn : (n == 0) = true) (hz : 0 ≤ off) (h1 : off ≤ sf) : ¬ (0 < (if n = 0 then sf else sl) ∧ (if n = 0 then sf else sl) < (if off < 0 then -off else off)) := by
  have hn' : n = 0 := by simpa using hn
  rw [if_pos hn', if_neg (by omega)]; omega
theorem rest_ref3 (hn : (n == 0) = false) (hz : off < 0) (h1 : -off ≤ sl) : ¬ (0 < (if n = 0 then sf else sl) ∧ (if n = 0 then sf else sl) < (if off < 0 then -off else off)) := by
  have hn' : ¬ n = 0 := by simpa using hn
  rw [if_neg hn', if_pos hz]; omega
theorem rest_ref4 (hn : (n == 0) = false) (hz : 0 ≤ off) (h1 : off ≤ sl) : ¬ (0 < (if n = 0 then sf else sl) ∧ (if n = 0 then sf else sl) < (if off < 0 then -off else off)) := by
  have hn' : ¬ n = 0 := by simpa using hn
  rw [if_neg hn', if_neg (by omega)]; omega
theorem rest_ref5 (hn : (n == 0) = true) (h1 : sf ≤ 0) : ¬ (0 < (if n = 0 then sf else sl) ∧ (if n = 0 then sf else sl) < (if off < 0 then -off else off)) := by
  have hn' : n = 0 := by simpa using hn
  rw [if_pos hn']; omega
theorem rest_ref6 (hn : (n == 0) = false) (h1 : sl ≤ 0) : ¬ (0 < (if n = 0 then sf else sl) ∧ (if n = 0 then sf else sl) < (if off < 0 then -off else off)) := by
  have hn' : ¬ n = 0 := by simpa using hn
  rw [if_neg hn']; omega
end

def r15.T : Bool × List (List Nat × List Nat) := (true, [([], []), ([], []), ([1], [1]), ([2], [2]), ([3], [3]), ([], []), ([5], [5]), ([6], [6]), ([7], [7]), ([8], [8]), ([], []), ([9, 10], [9, 10]), ([4, 11], [4, 11]), ([], []), ([13], [13]), ([14], [14]), ([15], [15]), ([16], [16]), ([17], [17]), ([], []), ([19], [19]), ([20], [20]), ([21], [21]), ([22], [22]), ([12, 18, 23, 11], [12, 18, 23]), ([0, 0, 1, 2, 3, 4, 5, 6, 7, 8, 9, 10, 11, 12, 13, 14, 15, 16, 17, 18, 19, 20, 21, 22, 23, 24], [0]), ([25, 0, 1, 2, 3, 4, 5, 6, 7, 8, 9, 10, 11, 12, 13, 14, 15, 16, 17, 18, 19, 20, 21, 22, 23, 24], [25]), ([26, 24, 24, 0, 1, 2, 3, 4, 5, 6, 7, 8, 9, 10, 11, 12, 13, 14, 15, 16, 17, 18, 19, 20, 21, 22, 23, 24], [24, 26])])
def r15.B : List Nat := [0, 0, 2, 6, 14, 0, 32, 96, 224, 480, 0, 2016, 4094, 0, 8192, 24576, 57344, 122880, 253952, 0, 524288, 1572864, 3670016, 7864320, 16777214, 33554431, 67108863, 134217727]
theorem r15.tab : rtab .any (opsOf Try.f20 15) = r15.T := by kernel_rfl
theorem r15.bits : waitsOk r15.T.2 r15.B = true := by kernel_rfl
def r16.T : Bool × List (List Nat × List Nat) := (true, [([], []), ([], []), ([1], [1]), ([2], [2]), ([3], [3]), ([4], [4]), ([], []), ([5, 6], [5, 6]), ([], []), ([8], [8]), ([9], [9]), ([10], [10]), ([7, 11], [7, 11]), ([], []), ([13], [13]), ([14], [14]), ([15], [15]), ([16], [16]), ([17], [17]), ([], []), ([19], [19]), ([20], [20]), ([21], [21]), ([22], [22]), ([12, 18, 23, 7], [12, 18, 23]), ([0, 0, 1, 2, 3, 4, 5, 6, 7, 8, 9, 10, 11, 12, 13, 14, 15, 16, 17, 18, 19, 20, 21, 22, 23, 24], [0]), ([25, 0, 1, 2, 3, 4, 5, 6, 7, 8, 9, 10, 11, 12, 13, 14, 15, 16, 17, 18, 19, 20, 21, 22, 23, 24], [25]), ([26, 24, 24, 0, 1, 2, 3, 4, 5, 6, 7, 8, 9, 10, 11, 12, 13, 14, 15, 16, 17, 18, 19, 20, 21, 22, 23, 24], [24, 26])])
def r16.B : List Nat := [0, 0, 2, 6, 14, 30, 0, 126, 0, 256, 768, 1792, 4094, 0, 8192, 24576, 57344, 122880, 253952, 0, 524288, 1572864, 3670016, 7864320, 16777214, 33554431, 67108863, 134217727]
theorem r16.tab : rtab .any (opsOf Try.f20 16) = r16.T := by kernel_rfl
theorem r16.bits : waitsOk r16.T.2 r16.B = true := by kernel_rfl
end Go.Proofs.Ytimcdiombljajaa.Sv
