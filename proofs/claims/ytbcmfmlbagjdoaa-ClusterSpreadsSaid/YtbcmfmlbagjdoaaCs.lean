/- cluster.spread. -/
import Derived.Test.YtbcmfmlbagjdoaaCo
import Derived.Test.YtbcmfmlbagjdoaaDiv64
import Derived.Test.YtbcmfmlbagjdoaaFq
import Derived.Test.YtbcmfmlbagjdoaaPAllx27
import Derived.BigQuiet
namespace Go.Proofs.Ytbcmfmlbagjdoaa.Ca
open Go Go.RowKit Go.Proofs.YtbcmfmlbagjdoaaW.PrintWords Go.Proofs.YtbcmfmlbagjdoaaW.PrintLast Go.Proofs.YtbcmfmlbagjdoaaW.PrintMore Go.Proofs.Ytbcmfmlbagjdoaa.PAll
theorem max2_mx (k k' : IntKind) (x y : Int) : Builtin.max2 (.int k x) (.int k' y) = pure (.int k (mx x y)) := max2_int k k' x y
theorem min2_mn (k k' : IntKind) (x y : Int) : Builtin.min2 (.int k x) (.int k' y) = pure (.int k (mn x y)) := min2_int k k' x y
attribute [local go_sem] max2_mx min2_mn max_two min_two
set_option linter.unusedVariables false
set_option linter.unusedSimpArgs false

/-- how far two offsets are apart, at most 2^30 -/
def dist (a b : Int) : Int := if 1073741824 < (if a < b then b - a else a - b) then 1073741824 else (if a < b then b - a else a - b)
theorem dist_in (a b : Int) : 0 ≤ dist a b ∧ dist a b ≤ 1073741824 := by unfold dist; split <;> split at * <;> omega
theorem dist_sq (a b : Int) : 0 ≤ dist a b * dist a b ∧ dist a b * dist a b ≤ 1152921504606846976 := by
  have h := dist_in a b
  exact Num.mul_bd (m := 1073741824) (n := 1073741824) h.1 h.2 h.1 h.2
def okO (x : S34) : Prop := -4503599627370496 ≤ x.f1 ∧ x.f1 ≤ 4503599627370496
theorem apart_dist {a b : Int} (h0 : -4503599627370496 ≤ a ∧ a ≤ 4503599627370496) (h1 : -4503599627370496 ≤ b ∧ b ≤ 4503599627370496) :
    mn (mx (wrap64 (a - b)) (wrap64 (b - a))) 1073741824 = dist a b := by
  rw [Num.w64_in (by omega) (by omega), Num.w64_in (by omega) (by omega)]
  unfold mn mx dist
  by_cases h : a < b
  · rw [if_pos (show a - b < b - a by omega), if_pos h]
  · by_cases h2 : a = b
    · subst h2; simp
    · rw [if_neg (show ¬ a - b < b - a by omega), if_neg h]
theorem apart_dist2 {a b : Int} (h0 : -4503599627370496 ≤ a ∧ a ≤ 4503599627370496) (h1 : -4503599627370496 ≤ b ∧ b ≤ 4503599627370496) :
    mn (mx (a - b) (b - a)) 1073741824 = dist a b := by
  have h := apart_dist h0 h1
  rwa [Num.w64_in (by omega) (by omega), Num.w64_in (by omega) (by omega)] at h
/-- the sum of the squares over the first k -/
def sumd (o : Int) (l : List S34) : Nat → Int
  | 0 => 0
  | k + 1 => sumd o l k + dist (rd_T34 l (k : Int)).f1 o * dist (rd_T34 l (k : Int)).f1 o
theorem sumd_in (o : Int) (l : List S34) : ∀ k, 0 ≤ sumd o l k ∧ sumd o l k ≤ k * 1152921504606846976
  | 0 => by simp [sumd]
  | k + 1 => by
    have h := sumd_in o l k
    have h2 := dist_sq (rd_T34 l (k : Int)).f1 o
    simp only [sumd]
    omega

set_option maxRecDepth 8000 in
set_option maxHeartbeats 4000000 in
theorem spread_any (A0 : Option Addr) (c0 : Nat) (l : List S34) (a1 : Int) (r : Int) (w : World) (hr : Kd.C k34 w A0 l.length l) (h2 : 2 ≤ l.length) (h12 : l.length ≤ 12) (hi0 : 0 ≤ a1) (hi : a1 < (l.length : Int)) (hb : ∀ i : Int, 0 ≤ i → i < (l.length : Int) → okO (rd_T34 l i))
    (hq : fixed_Sqrt.f 33 (sumd (rd_T34 l a1).f1 l l.length / ((l.length : Int) - 1)) = some (r, true)) :
    Calls Try.prog 24 #[.slice A0 l.length c0, .int .i64 a1] w fun e w' => e = .returned (.int .i64 r) ∧ Below w.heap.size w w' := by
  obtain ⟨o, ho⟩ : ∃ o, (rd_T34 l a1).f1 = o := ⟨_, rfl⟩
  have hbo := hb a1 hi0 hi
  unfold okO at hbo
  rw [ho] at hq hbo
  replace hr := Aside0.mk hr
  replace hq := Aside0.mk hq
  have HB := Aside0.mk (Below.refl w.heap.size w)
  go_enter Try.func24, Try.ntmps24
  go_wp2
  go_loopw [5, 6, 18] (fun hi lo i wr => ∃ (x : Int), 0 ≤ x ∧ x ≤ (l.length : Int) ∧ i = .int .i64 x ∧ hi = .int .u64 0 ∧ lo = .int .u64 (sumd o l x.toNat) ∧ Kd.C k34 wr A0 l.length l ∧ Below w.heap.size w wr) (fun _ _ i _ => l.length - (intOf i).toNat)
  · exact ⟨0, by omega, by omega, rfl, rfl, rfl, hr.out, HB.out⟩
  · obtain ⟨x, hx0, hx1, rfl, rfl, rfl, hR, hL⟩ := hrel
    have hsb := sumd_in o l x.toNat
    by_cases hlt : x < (l.length : Int)
    · obtain ⟨ad, rfl, s0, s1, s2, s3, s4⟩ := at_T34 hR x hx0 hlt
      have hj : sumd o l (x + 1).toNat = sumd o l x.toNat + dist (rd_T34 l x).f1 o * dist (rd_T34 l x).f1 o := by
        rw [show (x + 1).toNat = x.toNat + 1 by omega]
        show sumd o l x.toNat + _ = _
        rw [show ((x.toNat : Nat) : Int) = x by omega]
      have hbp := hb x hx0 hlt
      unfold okO at hbp
      generalize rd_T34 l x = p at *
      have hL' := hL.alloc hL.size (.cells #[.int .i64 p.f0, .int .i64 p.f1, .int .i64 p.f2, .int .i64 p.f3, .int .i64 p.f4] 34)
      have A0 := blk_new wr (.cells #[.int .i64 p.f0, .int .i64 p.f1, .int .i64 p.f2, .int .i64 p.f3, .int .i64 p.f4] 34)
      have hR' : Kd.C k34 (wr.alloc (.cells #[.int .i64 p.f0, .int .i64 p.f1, .int .i64 p.f2, .int .i64 p.f3, .int .i64 p.f4] 34)) (some ad) l.length l := Kd.C_below hR ((Below.refl _ _).alloc (Nat.le_refl _) _)
      obtain ⟨ad2, e2, x0, x1, x2, x3, x4⟩ := at_T34 hR' a1 hi0 hi
      obtain rfl : ad = ad2 := Option.some.inj e2
      rw [ho] at x1
      clear e2 x0 x2 x3 x4
      obtain ⟨q0, q1, q2, q3, q4⟩ := cs5 A0
      have ed := apart_dist2 hbp hbo
      have hds := dist_sq p.f1 o
      have hdi := dist_in p.f1 o
      have eu : IntKind.u64.wrap (dist p.f1 o) = dist p.f1 o := Num.u64_in hdi.1 (by omega)
      have em : IntKind.u64.wrap (dist p.f1 o * dist p.f1 o) = dist p.f1 o * dist p.f1 o := Num.u64_in hds.1 (by omega)
      have hA : bits_Add64.f (sumd o l x.toNat) (dist p.f1 o * dist p.f1 o) 0 = some (sumd o l (x + 1).toNat, 0) := by
        unfold bits_Add64.f
        rw [if_pos ⟨by omega, by omega, by omega, by omega, rfl⟩, hj]
        congr 2 <;> omega
      have hrun := fun w => bits_Add64.runs hA w
      replace hR' := Aside0.mk hR'
      replace hL' := Aside0.mk hL'
      clear hA hds hdi hsb hb
      generalize dist p.f1 o = dd at *
      have e0 : (0 : Int) ≤ x := hx0
      go_wp2
      go_quiet (fail)
      go_wp2_with (simp only [em, hrun])
      have hR2 := Kd.C_drewN hR'.out nq
      have hL2 := pw_below_drewN hL'.out nq
      go_roundw
      case rel => exact ⟨x + 1, by omega, by omega, by go_num, rfl, by rw [hj], hR2, hL2⟩
      case measure => simp [intOf]; omega
    · have hxe : x = (l.length : Int) := by omega
      subst hxe
      have e5 : IntKind.i64.wrap ((l.length : Int) - 1) = (l.length : Int) - 1 := by simp [IntKind.wrap, IntKind.bits, IntKind.signed]; omega
      have e5' : IntKind.u64.wrap ((l.length : Int) - 1) = (l.length : Int) - 1 := Num.u64_in (by omega) (by omega)
      have e6 : ((l.length : Int) - 1 == 0) = false := beq_false_of_ne (by omega)
      have e7 : ¬ (l.length : Int) - 1 = 0 := by omega
      have et : ((l.length : Int)).toNat = l.length := by omega
      rw [et] at hsb ⊢
      have hd := PureDiv.Div64_tells 0 (sumd o l l.length) ((l.length : Int) - 1) (by omega) (by omega) hsb.1 (by omega) (by omega) 20 (by omega)
      rw [Int.zero_mul, Int.zero_add] at hd
      have hq0 : 0 ≤ sumd o l l.length / ((l.length : Int) - 1) := Int.ediv_nonneg hsb.1 (by omega)
      have hq1 : sumd o l l.length / ((l.length : Int) - 1) < 9223372036854775808 := by
        apply Int.ediv_lt_of_lt_mul (by omega)
        have : (l.length : Int) * 1152921504606846976 < 9223372036854775808 * ((l.length : Int) - 1) := by omega
        omega
      have hd2 := fun W => bits_Div64.calls 20 _ _ _ _ _ W hd
      have hs2 := fun W => fixed_Sqrt.calls 33 _ r true W hq.out
      replace hd2 := Aside0.mk hd2
      replace hs2 := Aside0.mk hs2
      generalize hQ : sumd o l l.length / ((l.length : Int) - 1) = Q at *
      have e8 : IntKind.i64.wrap Q = Q := by simp [IntKind.wrap, IntKind.bits, IntKind.signed]; omega
      have e9 : wrap64 Q = Q := Num.w64_in (by omega) (by omega)
      replace hL := Aside0.mk hL
      replace hR := Aside0.mk hR
      clear hd hsb hQ hb
      go_wp2_with (first
        | (go_at_call 34
           with_reducible refine Calls.mono (hd2.out _) ?_
           rintro e w4 ⟨rfl, ⟨nd, rfl⟩⟩
           have hb3 := pw_below_drewN hL.out nd)
        | (go_at_call 35
           with_reducible refine Calls.mono (hs2.out _) ?_
           rintro e w4 ⟨rfl, ⟨nd2, rfl⟩⟩
           have hb4 := pw_below_drewN hL.out (nd + nd2)))
      all_goals (go_ret; exact ⟨rfl, hb4⟩)
end Go.Proofs.Ytbcmfmlbagjdoaa.Ca
