/- The servo's Sample, Freq, Samples, Reset, New: walked. -/
import Derived.Test.YtimcdiombljajaaSv
import Derived.Test.YtimcdiombljajaaMulFix
namespace Go.Proofs.Ytimcdiombljajaa.Sv
open Go Go.RowKit Go.Proofs.YtimcdiombljajaaW.PrintWords Go.Proofs.YtimcdiombljajaaW.PrintLast Go.Proofs.YtimcdiombljajaaW.PrintMore Go.Proofs.Ytimcdiombljajaa.PAll Go.Proofs.Ytimcdiombljajaa.PureDiv
attribute [local go_sem] max2_int min2_int max_two min_two max_three min_three max_four min_four
set_option linter.unusedVariables false
set_option linter.unusedSimpArgs false

theorem make_any (fn : Fn) (first cap : Array Value) (w : World) : (Instr.makeFunc fn first cap).run Try.prog w = .ok (.func fn first cap) w := rfl

set_option maxHeartbeats 1000000 in
theorem sample_range (b : Nat) (kp ki li sf sl I n last off span : Int) (w : World) (hb : w.heap[b]? = some (sv 50 kp ki li sf sl I n last))
    (hr : off < -1125899906842624 ∨ 1125899906842624 < off ∨ span < 1 ∨ 1125899906842624 < span) :
    Calls Try.prog 15 #[.pointer (some ⟨b, 0, none⟩), .int .i64 off, .int .i64 span] w fun e w' => e = .returned (.tuple #[.agg #[.int .i64 0, .int .i64 0], .int .i64 3]) ∧ w'.heap[b]? = some (sv 50 kp ki li sf sl I n last) ∧ Upd w w' b := by
  have hlt := blk_lt hb
  have B1 := blk_alloc hb (.cells #[.int .i64 0, .int .i64 0] 31)
  have R1 := blk_new w (.cells #[.int .i64 0, .int .i64 0] 31)
  have U1 := (Upd.refl w b).alloc (.cells #[.int .i64 0, .int .i64 0] 31)
  obtain ⟨c0, c1, c2, c3, c4, c5, c6, c7⟩ := cs8 B1
  obtain ⟨f0, f1, f2, f3, f4, f5, f6, f7⟩ := fs8 B1
  have hmf := make_any
  go_enter Try.func15, Try.ntmps15
  go_wp2
  all_goals
    have hne : b ≠ w.heap.size := by omega
    generalize w.alloc (.cells #[.int .i64 0, .int .i64 0] 31) = w1 at *
    refine bodyPost_ret (results_ct rfl _ _ w.heap.size _ _ _ _ rfl R1 Try.underlying31 rfl (by kernel_rfl)) rfl ?_
    exact ⟨rfl, B1, U1⟩

def thrS (sf sl n : Int) : Int := if n = 0 then sf else sl

/-- whether it steps; the offset of a nanosecond's time, a billion times over -/
def stepsS (sf sl n off : Int) : Prop := 0 < thrS sf sl n ∧ thrS sf sl n < mx off (-off)
def ratioS (off span : Int) : Int := mn (mx (if (md off 1000000000 span).2 = true then (md off 1000000000 span).1 else if 0 < off then 1000000000 else -1000000000) (-1000000000)) 1000000000

section
variable {sf sl n off : Int}
theorem steps_first (hn : (n == 0) = true) (h : 0 < sf) (h2 : sf < if off < -off then -off else off) : stepsS sf sl n off := by
  have hn' : n = 0 := by simpa using hn
  unfold stepsS thrS mx
  rw [if_pos hn']
  exact ⟨h, h2⟩
theorem steps_later (hn : (n == 0) = false) (h : 0 < sl) (h2 : sl < if off < -off then -off else off) : stepsS sf sl n off := by
  have hn' : ¬ n = 0 := by simpa using hn
  unfold stepsS thrS mx
  rw [if_neg hn']
  exact ⟨h, h2⟩
theorem rests_first (hn : (n == 0) = true) (h2 : (if off < -off then -off else off) ≤ sf) : ¬ stepsS sf sl n off := by
  have hn' : n = 0 := by simpa using hn
  unfold stepsS thrS mx
  rw [if_pos hn']
  exact fun h => absurd h.2 (Int.not_lt.2 h2)
theorem rests_first0 (hn : (n == 0) = true) (h2 : sf ≤ 0) : ¬ stepsS sf sl n off := by
  have hn' : n = 0 := by simpa using hn
  unfold stepsS thrS mx
  rw [if_pos hn']
  exact fun h => absurd h.1 (Int.not_lt.2 h2)
theorem rests_later (hn : (n == 0) = false) (h2 : (if off < -off then -off else off) ≤ sl) : ¬ stepsS sf sl n off := by
  have hn' : ¬ n = 0 := by simpa using hn
  unfold stepsS thrS mx
  rw [if_neg hn']
  exact fun h => absurd h.2 (Int.not_lt.2 h2)
theorem rests_later0 (hn : (n == 0) = false) (h2 : sl ≤ 0) : ¬ stepsS sf sl n off := by
  have hn' : ¬ n = 0 := by simpa using hn
  unfold stepsS thrS mx
  rw [if_neg hn']
  exact fun h => absurd h.1 (Int.not_lt.2 h2)
end

set_option maxHeartbeats 2000000 in
theorem sample_in (b : Nat) (kp ki li sf sl I n last off span e1 : Int) (w : World) (hb : w.heap[b]? = some (sv 50 kp ki li sf sl I n last))
    (h0 : -1125899906842624 ≤ off) (h1 : off ≤ 1125899906842624) (h2 : 1 ≤ span) (h3 : span ≤ 1125899906842624) (he : ratioS off span = e1) :
    Calls Try.prog 15 #[.pointer (some ⟨b, 0, none⟩), .int .i64 off, .int .i64 span] w fun e w' =>
      (stepsS sf sl n off → e = .returned (.tuple #[.agg #[.int .i64 2, .int .i64 off], .int .i64 0]) ∧ w'.heap[b]? = some (sv 50 kp ki li sf sl I (wrap64 (n + 1)) last)) ∧
      (¬ stepsS sf sl n off → e = .returned (.tuple #[.agg #[.int .i64 1, .int .i64 (freqS kp li e1 (intS ki li I e1))], .int .i64 0]) ∧ w'.heap[b]? = some (sv 50 kp ki li sf sl (intS ki li I e1) (wrap64 (n + 1)) (freqS kp li e1 (intS ki li I e1)))) ∧
      Upd w w' b := by
  have hlt := blk_lt hb
  have hm : fixed_MulDiv.f 20 off 1000000000 span = some (md off 1000000000 span) := MulDiv_tells off 1000000000 span (by omega) (by omega) (by omega) (by omega) (by omega) (by omega) 20 (Nat.le_refl _)
  have HW : ∀ W : World, W.heap[b]? = some (sv 50 kp ki li sf sl I (wrap64 (n + 1)) last) → Calls Try.prog 26 #[.pointer (some ⟨b, 0, none⟩), .int .i64 off, .int .i64 span] W fun e w' => e = .returned (.agg #[.int .i64 1, .int .i64 (freqS kp li e1 (intS ki li I e1))]) ∧ w'.heap[b]? = some (sv 50 kp ki li sf sl (intS ki li I e1) (wrap64 (n + 1)) (freqS kp li e1 (intS ki li I e1))) ∧ Upd W w' b :=
    fun W hW => steer_any b kp ki li sf sl I (wrap64 (n + 1)) last off span _ e1 _ 20 W hW hm he
  have HW := Aside0.mk HW
  clear hm he
  have B1 := blk_alloc hb (.cells #[.int .i64 0, .int .i64 0] 31)
  have R1 := blk_new w (.cells #[.int .i64 0, .int .i64 0] 31)
  have B0 : (w.setCell ⟨b, 6, none⟩ (.int .i64 (wrap64 (n + 1)))).heap[b]? = some (sv 50 kp ki li sf sl I (wrap64 (n + 1)) last) := blk_put hb 6 _ rfl
  have B2 := blk_alloc B0 (.cells #[.int .i64 0, .int .i64 0] 31)
  have U2 : Upd w ((w.setCell ⟨b, 6, none⟩ (.int .i64 (wrap64 (n + 1)))).alloc (.cells #[.int .i64 0, .int .i64 0] 31)) b := ((Upd.refl w b).set 6 _).alloc _
  have R2 := blk_new (w.setCell ⟨b, 6, none⟩ (.int .i64 (wrap64 (n + 1)))) (.cells #[.int .i64 0, .int .i64 0] 31)
  have hsz : (w.setCell ⟨b, 6, none⟩ (.int .i64 (wrap64 (n + 1)))).heap.size = w.heap.size := by simp [World.setCell]
  rw [hsz] at R2
  clear hsz
  obtain ⟨c0, c1, c2, c3, c4, c5, c6, c7⟩ := cs8 B1
  obtain ⟨f0, f1, f2, f3, f4, f5, f6, f7⟩ := fs8 B1
  have hne : b ≠ w.heap.size := by omega
  have hmf := make_any
  have HE := And.intro (And.intro h0 h1) (And.intro h2 h3)
  have e1' : ¬ (off < -1125899906842624) := by omega
  have e2' : ¬ (1125899906842624 < off) := by omega
  have e3' : ¬ (span < 1) := by omega
  have e4' : ¬ (1125899906842624 < span) := by omega
  have HB := Aside0.mk B2
  have HR := Aside0.mk R2
  have HU := Aside0.mk U2
  clear h0 h1 h2 h3 HE B2 R2 U2 B0
  go_enter Try.func15, Try.ntmps15
  go_wp2_with (first
    | (go_at_call 27
       refine (step_any _ _ _ _).mono ?_
       rintro e w' ⟨rfl, hbel⟩
       have R3 := blk_below HR.out hbel
       have B3 := blk_below HB.out hbel
       have U3 := HU.out.trans (Upd.of_below hbel)
       obtain ⟨d0, d1⟩ := cs2 R3
       obtain ⟨g0, g1⟩ := fs2 R3
       have hst : Aside0 True := ⟨trivial⟩)
    | (go_at_call 26
       refine (HW.out _ HB.out).mono ?_
       rintro e w' ⟨rfl, B3, hupd⟩
       have R3 := hupd.blk HR.out (Ne.symm hne)
       have U3 := HU.out.trans hupd
       obtain ⟨d0, d1⟩ := cs2 R3
       obtain ⟨g0, g1⟩ := fs2 R3
       have hst : Aside0 False → True := fun _ => trivial))
  all_goals first
    | (have hS : stepsS sf sl n off := by
         first
           | exact steps_first (by assumption) (by assumption) (by assumption)
           | exact steps_later (by assumption) (by assumption) (by assumption)
       have R6 := blk_put R3 0 (.int .i64 2) rfl
       have R7 := blk_put R6 1 (.int .i64 off) rfl
       have B6 := blk_far B3 (p := ⟨w.heap.size, 0, none⟩) (by simpa using hne) (.int .i64 2)
       have B7 := blk_far B6 (p := ⟨w.heap.size, 1, none⟩) (by simpa using hne) (.int .i64 off)
       refine bodyPost_ret (results_ct rfl _ _ w.heap.size _ _ _ _ rfl R7 Try.underlying31 rfl (by kernel_rfl)) rfl ?_
       exact ⟨fun _ => ⟨rfl, B7⟩, fun h => absurd hS h, (U3.far (by omega) _ _).far (by omega) _ _⟩)
    | (have hS : ¬ stepsS sf sl n off := by
         first
           | exact rests_first (by assumption) (by assumption)
           | exact rests_first0 (by assumption) (by assumption)
           | exact rests_later (by assumption) (by assumption)
           | exact rests_later0 (by assumption) (by assumption)
       have R6 := blk_put R3 0 (.int .i64 1) rfl
       have R7 := blk_put R6 1 (.int .i64 (freqS kp li e1 (intS ki li I e1))) rfl
       have B6 := blk_far B3 (p := ⟨w.heap.size, 0, none⟩) (by simpa using hne) (.int .i64 1)
       have B7 := blk_far B6 (p := ⟨w.heap.size, 1, none⟩) (by simpa using hne) (.int .i64 (freqS kp li e1 (intS ki li I e1)))
       refine bodyPost_ret (results_ct rfl _ _ w.heap.size _ _ _ _ rfl R7 Try.underlying31 rfl (by kernel_rfl)) rfl ?_
       exact ⟨fun h => absurd h hS, fun _ => ⟨rfl, B7⟩, (U3.far (by omega) _ _).far (by omega) _ _⟩)

end Go.Proofs.Ytimcdiombljajaa.Sv
