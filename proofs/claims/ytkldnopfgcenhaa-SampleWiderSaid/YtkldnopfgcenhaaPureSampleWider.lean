/- The law SampleWider: Grow keeps Offset and Delay, never makes the Bounds narrower, changes nothing without time, and growing twice differs from growing once by at most 1; and the chapter's examples hold. No condition. -/
import Derived.Test.YtkldnopfgcenhaaSampGrow
import Derived.Test.YtkldnopfgcenhaaPAllx41
namespace Go.Proofs.Ytkldnopfgcenhaa.Pure
open Go Go.RowKit Go.Proofs.Ytkldnopfgcenhaa.PAll Go.Proofs.Ytkldnopfgcenhaa.Num Go.Proofs.YtkldnopfgcenhaaW.PrintWords Go.Proofs.YtkldnopfgcenhaaW.PrintMore
set_option linter.unusedVariables false

theorem quad_tells (th ho ba mo cl off m : Int) (h1 : 0 ≤ th) (h2 : th ≤ 4294967295) (h3 : 0 ≤ ho) (h4 : ho ≤ 4294967295) (h5 : 0 ≤ ba) (h6 : ba ≤ 4294967295) (h7 : -2147483648 ≤ cl) (h8 : cl ≤ 2147483647) (h9 : -2147483648 ≤ off) (h10 : off ≤ 2147483647) (h11 : -2147483648 ≤ m) (h12 : m ≤ 2147483647) :
    timesynclaw21_quad.f th ho ba mo cl off m = some (cl - (th + ho + ba) - m, cl + off - ba - ho, cl + off - ba, cl) := by
  unfold timesynclaw21_quad.f
  rw [w64_in (n := th) (by omega) (by omega), w64_in (n := ho) (by omega) (by omega), w64_in (n := ba) (by omega) (by omega), w64_in (n := cl) (by omega) (by omega), w64_in (n := off) (by omega) (by omega), w64_in (n := th + ho) (by omega) (by omega), w64_in (n := th + ho + ba) (by omega) (by omega), w64_in (n := cl - (th + ho + ba)) (by omega) (by omega), w64_in (n := cl - (th + ho + ba) - m) (by omega) (by omega), w64_in (n := cl + off) (by omega) (by omega), w64_in (n := cl + off - ba) (by omega) (by omega), w64_in (n := cl + off - ba - ho) (by omega) (by omega)]

theorem more_small (d t : Int) (hd0 : 0 ≤ d) (hd1 : d ≤ 8589934590) (ht : tolr t) : 0 ≤ more d t ∧ more d t ≤ 4294968 := by
  have h := mul_bd hd0 hd1 ht.1 ht.2
  unfold more
  rw [Int.neg_mul]
  omega
theorem more_two (f g t : Int) : more f t + more g t = more (f + g) t ∨ more f t + more g t = more (f + g) t + 1 := by
  unfold more
  rw [Int.neg_mul, Int.neg_mul, Int.neg_mul, Int.add_mul]
  generalize f * t = a
  generalize g * t = b
  omega

theorem SampleWider_pure (th ho ba mo cl off f g tol : Int) (h1 : 0 ≤ th) (h2 : th ≤ 4294967295) (h3 : 0 ≤ ho) (h4 : ho ≤ 4294967295) (h5 : 0 ≤ ba) (h6 : ba ≤ 4294967295) (h7 : -2147483648 ≤ cl) (h8 : cl ≤ 2147483647) (h9 : -2147483648 ≤ off) (h10 : off ≤ 2147483647) (f0 : 0 ≤ f) (f1 : f ≤ 4294967295) (g0 : 0 ≤ g) (g1 : g ≤ 4294967295) (t0 : 0 ≤ tol) (t1 : tol ≤ 4294967295) :
    timesynclaw21_SampleWider.f 300 th ho ba mo cl off f g tol = some true := by
  unfold timesynclaw21_SampleWider.f
  have ht : tolr (tol % 500001) := ⟨by omega, by omega⟩
  rw [w64_in (n := tol) (by omega) (by omega), tmod_pos t0, w64_in (n := f) (by omega) (by omega), w64_in (n := g) (by omega) (by omega)]
  rw [quad_tells th ho ba mo cl off 0 h1 h2 h3 h4 h5 h6 h7 h8 h9 h10 (by omega) (by omega)]
  simp only [Option.bind_some]
  generalize tol % 500001 = t at *
  generalize hq1 : cl - (th + ho + ba) - 0 = q1
  generalize hq2 : cl + off - ba - ho = q2
  generalize hq3 : cl + off - ba = q3
  have ha : asks q1 q2 q3 cl 1 t := ⟨⟨by omega, by omega⟩, ⟨by omega, by omega⟩, ⟨by omega, by omega⟩, ⟨by omega, by omega⟩, by omega, by omega, ht⟩
  have hg := more_bd (cl - q1) t (by omega) (by omega) ht
  have hmf := more_small f t f0 (by omega) ht
  have hmg := more_small g t g0 (by omega) ht
  have hmfg := more_small (f + g) t (by omega) (by omega) ht
  have htwo := more_two f g t
  have hm0 : more 0 t = 0 := by unfold more; simp
  obtain ⟨o, d, p, r, ho0, ho1, hd0, hd1, hp0, hp1⟩ : ∃ o d p : Int, ofS q1 q2 q3 cl 1 t = (o, d, p, cl, 0) ∧ -4503599627370496 ≤ o ∧ o ≤ 4503599627370496 ∧ 0 ≤ d ∧ d ≤ 9007199254740000 ∧ 0 ≤ p ∧ p ≤ 9007199230000000 := by
    refine ⟨(q2 - q1 + (q3 - cl)) / 2, max 1 (cl - q1 - (q3 - q2)), 1 + more (cl - q1) t, ?_, by omega, by omega, by omega, by omega, by omega, by omega⟩
    unfold ofS keep
    rw [if_pos ha, if_neg (by omega), if_pos ⟨⟨by omega, by omega⟩, ⟨by omega, by omega⟩, by omega, by omega, by omega, by omega⟩]
  rw [Of_tells q1 q2 q3 cl _ _ 300 (by omega), r]
  simp only [Option.bind_some]
  have fin : ∀ x y : Int, 0 ≤ x → x ≤ 9007199250000000 → -4503599627370496 ≤ y → y ≤ 4503599627370496 → fine o d x y := fun x y hx0 hx1 hy0 hy1 => ⟨⟨ho0, ho1⟩, ⟨hy0, hy1⟩, hd0, by omega, hx0, by omega⟩
  have gr : ∀ x y n : Int, 0 ≤ x → x ≤ 9007199240000000 → -4503599627370496 ≤ y → y ≤ n → n ≤ 4503599627370496 → 0 ≤ more (n - y) t → more (n - y) t ≤ 8000000 → growS o d x y n t = (o, d, x + more (n - y) t, n, 0) := by
    intro x y n hx0 hx1 hy0 hyn hn1 hm0 hm1
    unfold growS keep
    rw [if_pos ⟨fin x y hx0 (by omega) hy0 (by omega), ⟨by omega, hn1⟩, ht⟩, if_neg (by omega), if_pos (fin _ _ (by omega) (by omega) (by omega) hn1)]
  have e1 : cl + f - cl = f := by omega
  have e2 : cl + f + g - (cl + f) = g := by omega
  have e3 : cl + f + g - cl = f + g := by omega
  have e4 : cl - cl = 0 := by omega
  have ga : growS o d p cl (cl + f) t = (o, d, p + more f t, cl + f, 0) := by rw [gr p cl (cl + f) hp0 (by omega) (by omega) (by omega) (by omega) (by rw [e1]; omega) (by rw [e1]; omega), e1]
  have gb : growS o d (p + more f t) (cl + f) (cl + f + g) t = (o, d, p + more f t + more g t, cl + f + g, 0) := by rw [gr _ (cl + f) (cl + f + g) (by omega) (by omega) (by omega) (by omega) (by omega) (by rw [e2]; omega) (by rw [e2]; omega), e2]
  have gc : growS o d p cl (cl + f + g) t = (o, d, p + more (f + g) t, cl + f + g, 0) := by rw [gr p cl (cl + f + g) hp0 (by omega) (by omega) (by omega) (by omega) (by rw [e3]; omega) (by rw [e3]; omega), e3]
  have gz : growS o d p cl cl t = (o, d, p, cl, 0) := by rw [gr p cl cl hp0 (by omega) (by omega) (by omega) (by omega) (by rw [e4, hm0]; omega) (by rw [e4, hm0]; omega), e4, hm0, Int.add_zero]
  rw [w64_in (n := cl + f) (by omega) (by omega), Grow_tells _ _ _ _ _ _ 300 (by omega), ga]
  simp only [Option.bind_some]
  rw [w64_in (n := cl + f + g) (by omega) (by omega), Grow_tells _ _ _ _ _ _ 300 (by omega), gb]
  simp only [Option.bind_some]
  rw [Grow_tells _ _ _ _ _ _ 300 (by omega), gc]
  simp only [Option.bind_some]
  rw [Grow_tells _ _ _ _ _ _ 300 (by omega), gz]
  simp only [Option.bind_some, if_true, beq_self_eq_true, Bool.not_true, Bool.or_self]
  have last : timesynclaw21_SampleWider.j1 299 false o d (p + more f t + more g t) (cl + f + g) o d (p + more (f + g) t) (cl + f + g) = some true := by
    have A := awake_tells 298 (by omega)
    simp only [timesynclaw21_SampleWider.j1, A, Option.bind_some]
    rw [if_neg (by decide)]
    by_cases hE : p + more f t + more g t = p + more (f + g) t
    · rw [if_pos hE]; rfl
    · rw [if_neg hE, if_pos (by rw [w64_in (by omega) (by omega)]; omega)]; rfl
  have e300 : timesynclaw21_SampleWider.j0 300 false o d p cl o d (p + more f t + more g t) (cl + f + g) o d (p + more (f + g) t) (cl + f + g) = some true := by
    simp only [timesynclaw21_SampleWider.j0, Bounds_tells, Option.bind_some]
    unfold bounds
    rw [if_pos (fin p cl hp0 (by omega) (by omega) (by omega)), if_pos (fin _ (cl + f + g) (by omega) (by omega) (by omega) (by omega))]
    rw [if_neg (by decide), if_neg (by simp only; omega), if_neg (by simp only; omega)]
    simp only [if_true, bne_self_eq_false]
    exact last
  exact e300

theorem SampleWider_walk (a0_0 a0_1 a0_2 a0_3 a0_4 a0_5 a1 a2 a3 : Int) (w : World) (w0_0 : (Lit.int .u32 a0_0).wf = true) (w0_1 : (Lit.int .u32 a0_1).wf = true) (w0_2 : (Lit.int .u32 a0_2).wf = true) (w0_3 : (Lit.int .i32 a0_3).wf = true) (w0_4 : (Lit.int .i32 a0_4).wf = true) (w0_5 : (Lit.int .i32 a0_5).wf = true) (w1 : (Lit.int .u32 a1).wf = true) (w2 : (Lit.int .u32 a2).wf = true) (w3 : (Lit.int .u32 a3).wf = true) :
    Calls Try.prog 9 #[.agg #[.int .u32 a0_0, .int .u32 a0_1, .int .u32 a0_2, .int .i32 a0_3, .int .i32 a0_4, .int .i32 a0_5], .int .u32 a1, .int .u32 a2, .int .u32 a3] w fun e w' => e = .returned (.bool true) ∧ Below w.heap.size w w' :=
  timesynclaw21_SampleWider.calls 300 a0_0 a0_1 a0_2 a0_3 a0_4 a0_5 a1 a2 a3 true w
    (SampleWider_pure _ _ _ _ _ _ _ _ _ (wfu32 w0_0).1 (wfu32 w0_0).2 (wfu32 w0_1).1 (wfu32 w0_1).2 (wfu32 w0_2).1 (wfu32 w0_2).2 (wf32 w0_4).1 (wf32 w0_4).2 (wf32 w0_5).1 (wf32 w0_5).2 (wfu32 w1).1 (wfu32 w1).2 (wfu32 w2).1 (wfu32 w2).2 (wfu32 w3).1 (wfu32 w3).2)

end Go.Proofs.Ytkldnopfgcenhaa.Pure
