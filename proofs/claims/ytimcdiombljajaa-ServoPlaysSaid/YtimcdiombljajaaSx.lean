/- The servo's Freq, Samples, Reset, New, and what a servo that is nil does: walked. -/
import Derived.Test.YtimcdiombljajaaSw
import Derived.Test.YtimcdiombljajaaPAllx1
namespace Go.Proofs.Ytimcdiombljajaa.Sv
open Go Go.RowKit Go.Proofs.YtimcdiombljajaaW.PrintWords Go.Proofs.YtimcdiombljajaaW.PrintLast Go.Proofs.YtimcdiombljajaaW.PrintMore Go.Proofs.Ytimcdiombljajaa.PAll Go.Proofs.Ytimcdiombljajaa.PureDiv
attribute [local go_sem] max2_int min2_int max_two min_two max_three min_three max_four min_four
set_option linter.unusedVariables false
set_option linter.unusedSimpArgs false

set_option maxHeartbeats 1000000 in
theorem freq_any (b : Nat) (kp ki li sf sl I n last : Int) (w : World) (hb : w.heap[b]? = some (sv 50 kp ki li sf sl I n last)) :
    Calls Try.prog 18 #[.pointer (some ⟨b, 0, none⟩)] w fun e w' => e = .returned (.int .i64 last) ∧ w = w' := by
  obtain ⟨c0, c1, c2, c3, c4, c5, c6, c7⟩ := cs8 hb
  obtain ⟨f0, f1, f2, f3, f4, f5, f6, f7⟩ := fs8 hb
  go_enter Try.func18, Try.ntmps18
  go_wp2
  all_goals (go_ret; exact ⟨rfl, rfl⟩)
set_option maxHeartbeats 1000000 in
theorem samples_any (b : Nat) (kp ki li sf sl I n last : Int) (w : World) (hb : w.heap[b]? = some (sv 50 kp ki li sf sl I n last)) :
    Calls Try.prog 24 #[.pointer (some ⟨b, 0, none⟩)] w fun e w' => e = .returned (.int .i64 n) ∧ w = w' := by
  obtain ⟨c0, c1, c2, c3, c4, c5, c6, c7⟩ := cs8 hb
  obtain ⟨f0, f1, f2, f3, f4, f5, f6, f7⟩ := fs8 hb
  go_enter Try.func24, Try.ntmps24
  go_wp2
  all_goals (go_ret; exact ⟨rfl, rfl⟩)
set_option maxHeartbeats 1000000 in
theorem reset_any (b : Nat) (kp ki li sf sl I n last : Int) (w : World) (hb : w.heap[b]? = some (sv 50 kp ki li sf sl I n last)) :
    Calls Try.prog 21 #[.pointer (some ⟨b, 0, none⟩)] w fun e w' => e = .returned (.tuple #[]) ∧ w'.heap[b]? = some (sv 50 kp ki li sf sl 0 0 last) ∧ Upd w w' b := by
  obtain ⟨c0, c1, c2, c3, c4, c5, c6, c7⟩ := cs8 hb
  obtain ⟨f0, f1, f2, f3, f4, f5, f6, f7⟩ := fs8 hb
  have B1 : (w.setCell ⟨b, 5, none⟩ (.int .i64 0)).heap[b]? = some (sv 50 kp ki li sf sl 0 n last) := blk_put hb 5 _ rfl
  have B2 : ((w.setCell ⟨b, 5, none⟩ (.int .i64 0)).setCell ⟨b, 6, none⟩ (.int .i64 0)).heap[b]? = some (sv 50 kp ki li sf sl 0 0 last) := blk_put B1 6 _ rfl
  have U2 := ((Upd.refl w b).set 5 (.int .i64 0)).set 6 (.int .i64 0)
  go_enter Try.func21, Try.ntmps21
  go_wp2
  all_goals
    first | go_end0 | ((try simp only [Exit.inBlock, Exit.then]); refine bodyPost_ret (results_none rfl _ _ _) rfl ?_)
    exact ⟨rfl, B2, U2⟩

set_option maxHeartbeats 1000000 in
theorem nil_freq (w : World) : Calls Try.prog 18 #[.pointer none] w fun e w' => e = .returned (.int .i64 0) ∧ w = w' := by
  go_enter Try.func18, Try.ntmps18
  go_wp2
  all_goals (go_ret; exact ⟨rfl, rfl⟩)
set_option maxHeartbeats 1000000 in
theorem nil_samples (w : World) : Calls Try.prog 24 #[.pointer none] w fun e w' => e = .returned (.int .i64 0) ∧ w = w' := by
  go_enter Try.func24, Try.ntmps24
  go_wp2
  all_goals (go_ret; exact ⟨rfl, rfl⟩)
set_option maxHeartbeats 1000000 in
theorem nil_reset (w : World) : Calls Try.prog 21 #[.pointer none] w fun e w' => e = .returned (.tuple #[]) ∧ w = w' := by
  go_enter Try.func21, Try.ntmps21
  go_wp2
  all_goals
    first | go_end0 | ((try simp only [Exit.inBlock, Exit.then]); refine bodyPost_ret (results_none rfl _ _ _) rfl ?_)
    exact ⟨rfl, rfl⟩
set_option maxHeartbeats 1000000 in
theorem nil_sample (off span : Int) (w : World) :
    Calls Try.prog 15 #[.pointer none, .int .i64 off, .int .i64 span] w fun e w' => e = .returned (.tuple #[.agg #[.int .i64 0, .int .i64 0], .int .i64 1]) ∧ Below w.heap.size w w' := by
  have R1 := blk_new w (.cells #[.int .i64 0, .int .i64 0] 31)
  have U1 : Below w.heap.size w (w.alloc (.cells #[.int .i64 0, .int .i64 0] 31)) := (Below.refl _ _).alloc (Nat.le_refl _) _
  go_enter Try.func15, Try.ntmps15
  go_wp2
  all_goals
    generalize w.alloc (.cells #[.int .i64 0, .int .i64 0] 31) = w1 at *
    refine bodyPost_ret (results_ct rfl _ _ w.heap.size _ _ _ _ rfl R1 Try.underlying31 rfl (by kernel_rfl)) rfl ?_
    exact ⟨rfl, U1⟩

set_option maxHeartbeats 1000000 in
theorem new_some (kp ki li sf sl : Int) (w : World) (hc : servo_Check.f kp ki li sf sl = some 0) :
    Calls Try.prog 13 #[.agg #[.int .i64 kp, .int .i64 ki, .int .i64 li, .int .i64 sf, .int .i64 sl]] w fun e w' =>
      ∃ g, w.heap.size ≤ g ∧ e = .returned (.pointer (some ⟨g, 0, none⟩)) ∧ w'.heap[g]? = some (sv 50 kp ki li sf sl 0 0 0) ∧ Below w.heap.size w w' := by
  have HC := Aside0.mk hc
  clear hc
  have R1 := blk_new w (.cells #[.int .i64 kp, .int .i64 ki, .int .i64 li, .int .i64 sf, .int .i64 sl] 23)
  obtain ⟨c0, c1, c2, c3, c4⟩ := cs5 R1
  obtain ⟨f0, f1, f2, f3, f4⟩ := fs5 R1
  have U1 : Below w.heap.size w (w.alloc (.cells #[.int .i64 kp, .int .i64 ki, .int .i64 li, .int .i64 sf, .int .i64 sl] 23)) := (Below.refl _ _).alloc (Nat.le_refl _) _
  go_enter Try.func13, Try.ntmps13
  go_wp2_with (first
    | (go_at_call 11
       refine (servo_Check.calls kp ki li sf sl 0 _ HC.out).mono ?_
       rintro e w' ⟨rfl, hbel⟩
       have R2 := blk_below R1 hbel
       have U2 := U1.trans (hbel.mono (by simp))
       obtain ⟨d0, d1, d2, d3, d4⟩ := cs5 R2
       obtain ⟨g0, g1, g2, g3, g4⟩ := fs5 R2))
  all_goals
    have R3 := blk_new w' (.cells #[.int .i64 kp, .int .i64 ki, .int .i64 li, .int .i64 sf, .int .i64 sl, .int .i64 0, .int .i64 0, .int .i64 0] 50)
    have U3 := U2.alloc U2.size (.cells #[.int .i64 kp, .int .i64 ki, .int .i64 li, .int .i64 sf, .int .i64 sl, .int .i64 0, .int .i64 0, .int .i64 0] 50)
    go_ret
    exact ⟨_, U2.size, rfl, R3, U3⟩

set_option maxHeartbeats 1000000 in
theorem new_none (kp ki li sf sl r : Int) (w : World) (hr : r ≠ 0) (hc : servo_Check.f kp ki li sf sl = some r) :
    Calls Try.prog 13 #[.agg #[.int .i64 kp, .int .i64 ki, .int .i64 li, .int .i64 sf, .int .i64 sl]] w fun e w' =>
      e = .returned (.pointer none) ∧ Below w.heap.size w w' := by
  have HC := Aside0.mk hc
  clear hc
  have R1 := blk_new w (.cells #[.int .i64 kp, .int .i64 ki, .int .i64 li, .int .i64 sf, .int .i64 sl] 23)
  obtain ⟨c0, c1, c2, c3, c4⟩ := cs5 R1
  obtain ⟨f0, f1, f2, f3, f4⟩ := fs5 R1
  have U1 : Below w.heap.size w (w.alloc (.cells #[.int .i64 kp, .int .i64 ki, .int .i64 li, .int .i64 sf, .int .i64 sl] 23)) := (Below.refl _ _).alloc (Nat.le_refl _) _
  go_enter Try.func13, Try.ntmps13
  go_wp2_with (first
    | (go_at_call 11
       refine (servo_Check.calls kp ki li sf sl r _ HC.out).mono ?_
       rintro e w' ⟨rfl, hbel⟩
       have R2 := blk_below R1 hbel
       have U2 := U1.trans (hbel.mono (by simp))
       obtain ⟨d0, d1, d2, d3, d4⟩ := cs5 R2
       obtain ⟨g0, g1, g2, g3, g4⟩ := fs5 R2))
  all_goals first
    | (exfalso; simp_all; done)
    | (go_ret; exact ⟨rfl, U2⟩)

/-! ### A whole sample -/
structure St where
  I : Int
  n : Int
  last : Int
structure Conf where
  kp : Int
  ki : Int
  li : Int
  sf : Int
  sl : Int
def svo (c : Conf) (s : St) : Obj := sv 50 c.kp c.ki c.li c.sf c.sl s.I s.n s.last
def inS (off span : Int) : Prop := (-1125899906842624 ≤ off ∧ off ≤ 1125899906842624) ∧ 1 ≤ span ∧ span ≤ 1125899906842624
instance (off span : Int) : Decidable (inS off span) := by unfold inS; infer_instance
instance (sf sl n off : Int) : Decidable (stepsS sf sl n off) := by unfold stepsS; infer_instance
/-- what Sample answers (kind, value, error), and the servo behind it -/
def act (c : Conf) (s : St) (off span : Int) : Int × Int × Int :=
  if inS off span then (if stepsS c.sf c.sl s.n off then (2, off, 0) else (1, freqS c.kp c.li (ratioS off span) (intS c.ki c.li s.I (ratioS off span)), 0)) else (0, 0, 3)
def nxt (c : Conf) (s : St) (off span : Int) : St :=
  if inS off span then
    (if stepsS c.sf c.sl s.n off then ⟨s.I, wrap64 (s.n + 1), s.last⟩
     else ⟨intS c.ki c.li s.I (ratioS off span), wrap64 (s.n + 1), freqS c.kp c.li (ratioS off span) (intS c.ki c.li s.I (ratioS off span))⟩)
  else s

theorem sample_any (b : Nat) (c : Conf) (s : St) (off span : Int) (w : World) (hb : w.heap[b]? = some (svo c s)) :
    Calls Try.prog 15 #[.pointer (some ⟨b, 0, none⟩), .int .i64 off, .int .i64 span] w fun e w' =>
      e = .returned (.tuple #[.agg #[.int .i64 (act c s off span).1, .int .i64 (act c s off span).2.1], .int .i64 (act c s off span).2.2]) ∧ w'.heap[b]? = some (svo c (nxt c s off span)) ∧ Upd w w' b := by
  by_cases hin : inS off span
  · have h := sample_in b c.kp c.ki c.li c.sf c.sl s.I s.n s.last off span (ratioS off span) w hb hin.1.1 hin.1.2 hin.2.1 hin.2.2 rfl
    unfold act nxt
    simp only [if_pos hin]
    by_cases hS : stepsS c.sf c.sl s.n off
    · simp only [if_pos hS]
      exact h.mono fun e w' hw => ⟨(hw.1 hS).1, (hw.1 hS).2, hw.2.2⟩
    · simp only [if_neg hS]
      exact h.mono fun e w' hw => ⟨(hw.2.1 hS).1, (hw.2.1 hS).2, hw.2.2⟩
  · have h := sample_range b c.kp c.ki c.li c.sf c.sl s.I s.n s.last off span w hb (by unfold inS at hin; omega)
    unfold act nxt
    simp only [if_neg hin]
    exact h

/-- what a deed does -/
def deed (c : Conf) (s : St) (k off span : Int) : St := if k = 0 then nxt c s off span else if k = 1 then ⟨0, 0, s.last⟩ else s

set_option maxHeartbeats 2000000 in
theorem does_any (b : Nat) (c : Conf) (s : St) (k off span : Int) (w : World) (hb : w.heap[b]? = some (svo c s)) :
    Calls Try.prog 17 #[.pointer (some ⟨b, 0, none⟩), .agg #[.int .i64 k, .int .i64 off, .int .i64 span]] w fun e w' =>
      e = .returned (.tuple #[]) ∧ w'.heap[b]? = some (svo c (deed c s k off span)) ∧ Upd w w' b := by
  have hlt := blk_lt hb
  have B1 := blk_alloc hb (.cells #[.int .i64 k, .int .i64 off, .int .i64 span] 38)
  have R1 := blk_new w (.cells #[.int .i64 k, .int .i64 off, .int .i64 span] 38)
  have U1 := (Upd.refl w b).alloc (.cells #[.int .i64 k, .int .i64 off, .int .i64 span] 38)
  obtain ⟨d0, d1, d2⟩ := cs3 R1
  obtain ⟨g0, g1, g2⟩ := fs3 R1
  have hne : w.heap.size ≠ b := by omega
  by_cases hk : k = 0
  · subst hk
    go_enter Try.func17, Try.ntmps17
    go_wp2_with (first
      | (go_at_call 15
         refine (sample_any b c s off span _ B1).mono ?_
         rintro e w' ⟨rfl, B2, hupd⟩
         have R2 := hupd.blk R1 hne
         have U2 := U1.trans hupd
         obtain ⟨d0', d1', d2'⟩ := cs3 R2
         obtain ⟨g0', g1', g2'⟩ := fs3 R2))
    all_goals
      first | go_end0 | ((try simp only [Exit.inBlock, Exit.then]); refine bodyPost_ret (results_none rfl _ _ _) rfl ?_)
      exact ⟨rfl, by simpa [deed] using B2, U2⟩
  · by_cases hk1 : k = 1
    · subst hk1
      go_enter Try.func17, Try.ntmps17
      go_wp2_with (first
        | (go_at_call 21
           refine (reset_any b c.kp c.ki c.li c.sf c.sl s.I s.n s.last _ B1).mono ?_
           rintro e w' ⟨rfl, B2, hupd⟩
           have U2 := U1.trans hupd))
      all_goals
        first | go_end0 | ((try simp only [Exit.inBlock, Exit.then]); refine bodyPost_ret (results_none rfl _ _ _) rfl ?_)
        exact ⟨rfl, B2, U2⟩
    · have hk0' : (k == 0) = false := by simpa using hk
      have hk1' : (k == 1) = false := by simpa using hk1
      go_enter Try.func17, Try.ntmps17
      go_wp2
      all_goals
        first | go_end0 | ((try simp only [Exit.inBlock, Exit.then]); refine bodyPost_ret (results_none rfl _ _ _) rfl ?_)
        exact ⟨rfl, by simpa [deed, hk, hk1] using B1, U1⟩

end Go.Proofs.Ytimcdiombljajaa.Sv
