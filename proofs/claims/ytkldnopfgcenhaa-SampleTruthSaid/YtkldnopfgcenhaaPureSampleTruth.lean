/- The law SampleTruth: the bounds of a sample contain the true offset, whatever time the messages take and whatever the client's clock does within its tolerance; and the chapter's examples hold. No condition. -/
import Derived.Test.YtkldnopfgcenhaaSampBase
import Derived.Test.YtkldnopfgcenhaaPAllx35
namespace Go.Proofs.Ytkldnopfgcenhaa.Pure
open Go Go.RowKit Go.Proofs.Ytkldnopfgcenhaa.PAll Go.Proofs.Ytkldnopfgcenhaa.Num Go.Proofs.YtkldnopfgcenhaaW.PrintWords Go.Proofs.YtkldnopfgcenhaaW.PrintMore
set_option linter.unusedVariables false

theorem quad_tells (th ho ba mo cl off m : Int) (h1 : 0 ≤ th) (h2 : th ≤ 4294967295) (h3 : 0 ≤ ho) (h4 : ho ≤ 4294967295) (h5 : 0 ≤ ba) (h6 : ba ≤ 4294967295) (h7 : -2147483648 ≤ cl) (h8 : cl ≤ 2147483647) (h9 : -2147483648 ≤ off) (h10 : off ≤ 2147483647) (h11 : -2147483648 ≤ m) (h12 : m ≤ 2147483647) :
    timesynclaw21_quad.f th ho ba mo cl off m = some (cl - (th + ho + ba) - m, cl + off - ba - ho, cl + off - ba, cl) := by
  unfold timesynclaw21_quad.f
  rw [w64_in (n := th) (by omega) (by omega), w64_in (n := ho) (by omega) (by omega), w64_in (n := ba) (by omega) (by omega), w64_in (n := cl) (by omega) (by omega), w64_in (n := off) (by omega) (by omega), w64_in (n := th + ho) (by omega) (by omega), w64_in (n := th + ho + ba) (by omega) (by omega), w64_in (n := cl - (th + ho + ba)) (by omega) (by omega), w64_in (n := cl - (th + ho + ba) - m) (by omega) (by omega), w64_in (n := cl + off) (by omega) (by omega), w64_in (n := cl + off - ba) (by omega) (by omega), w64_in (n := cl + off - ba - ho) (by omega) (by omega)]

/-- what the tolerance allows of the client's clock: m more than all -/
def allowed (all t m : Int) : Prop := m = 0 ∨ 0 < m ∧ m ≤ (all + m) * t / 1000000000 ∨ m < 0 ∧ 0 ≤ all + m ∧ -m ≤ (all + m) * t / 1000000000

theorem half_bd {m : Int} {P : Int} (h : -(2 * P) < m ∧ m < 2 * P) (hP : 0 < P) : -P < Int.tdiv m 2 ∧ Int.tdiv m 2 < P := by
  rcases Int.lt_or_le m 0 with hm | hm
  · have e : Int.tdiv m 2 = -(Int.tdiv (-m) 2) := by rw [Int.neg_tdiv]; omega
    rw [e, tdiv_pos (by omega)]
    omega
  · rw [tdiv_pos hm]
    omega

/-- The cutting comes to an end, with what is allowed. -/
theorem cut_tells (p t all th ho ba mo cl off : Int) (ht0 : 0 ≤ t) (ht1 : t ≤ 500000) (ha0 : 0 ≤ all) (ha1 : all ≤ 12884901885) (n : Nat) : ∀ (k : Nat) (m : Int), -2147483648 ≤ m → m ≤ 2147483647 → -(2 ^ n : Int) < m ∧ m < 2 ^ n → n + 1 ≤ k →
    ∃ k' m', k ≤ k' + n + 1 ∧ allowed all t m' ∧ -2147483648 ≤ m' ∧ m' ≤ 2147483647 ∧ timesynclaw21_SampleTruth.l0 k p t all m th ho ba mo cl off = timesynclaw21_SampleTruth.j1 k' p t m' th ho ba mo cl off := by
  induction n with
  | zero =>
    intro k m hm0 hm1 hb hk
    obtain ⟨k, rfl⟩ : ∃ q, k = q + 1 := ⟨k - 1, by omega⟩
    have : m = 0 := by simp at hb; omega
    subst this
    refine ⟨k, 0, by omega, Or.inl rfl, by omega, by omega, ?_⟩
    simp only [timesynclaw21_SampleTruth.l0]
    rw [if_neg (by decide), if_neg (by decide)]
  | succ n ih =>
    intro k m hm0 hm1 hb hk
    obtain ⟨k, rfl⟩ : ∃ q, k = q + 1 := ⟨k - 1, by omega⟩
    have hP0 : 0 < (2 : Int) ^ n := by have := Nat.two_pow_pos n; have e : ((2 ^ n : Nat) : Int) = 2 ^ n := by simp
                                       omega
    have hpow : (2 : Int) ^ (n + 1) = 2 * 2 ^ n := by rw [Int.pow_succ]; omega
    have hh := half_bd (P := 2 ^ n) (m := m) (by rw [hpow] at hb; exact hb) hP0
    have hh2 : -2147483648 ≤ Int.tdiv m 2 ∧ Int.tdiv m 2 ≤ 2147483647 := by
      have := half_bd (P := 2147483648) (m := m) ⟨by omega, by omega⟩ (by omega)
      omega
    have ew : wrap64 (Int.tdiv m 2) = Int.tdiv m 2 := w64_in (by omega) (by omega)
    have again := ih k (Int.tdiv m 2) hh2.1 hh2.2 hh (by omega)
    obtain ⟨k', m', r1, r2, r3, r4, r5⟩ := again
    simp only [timesynclaw21_SampleTruth.l0, ew]
    by_cases hp : m > 0
    · have hx := mul_bd (x := all + m) (m := 20000000000) (by omega) (by omega) ht0 ht1
      have e1 : wrap64 (Int.tdiv (wrap64 (wrap64 (all + m) * t)) 1000000000) = (all + m) * t / 1000000000 := by
        rw [w64_in (n := all + m) (by omega) (by omega), w64_in (n := (all + m) * t) (by omega) (by omega), tdiv_pos hx.1, w64_in (by omega) (by omega)]
      rw [if_pos hp, e1]
      by_cases hc : m > (all + m) * t / 1000000000
      · rw [if_pos hc]
        exact ⟨k', m', by omega, r2, r3, r4, r5⟩
      · rw [if_neg hc, if_neg (by omega)]
        exact ⟨k, m, by omega, Or.inr (Or.inl ⟨by omega, by omega⟩), hm0, hm1, rfl⟩
    · rw [if_neg hp]
      by_cases hn : m < 0
      · rw [if_pos hn, w64_in (n := -m) (by omega) (by omega), w64_in (n := all + m) (by omega) (by omega)]
        by_cases hpos : 0 ≤ all + m
        · have hx := mul_bd (x := all + m) (m := 20000000000) hpos (by omega) ht0 ht1
          have e1 : wrap64 (Int.tdiv (wrap64 ((all + m) * t)) 1000000000) = (all + m) * t / 1000000000 := by
            rw [w64_in (n := (all + m) * t) (by omega) (by omega), tdiv_pos hx.1, w64_in (by omega) (by omega)]
          rw [e1]
          by_cases hc : -m > (all + m) * t / 1000000000
          · rw [if_pos hc]
            exact ⟨k', m', by omega, r2, r3, r4, r5⟩
          · rw [if_neg hc]
            exact ⟨k, m, by omega, Or.inr (Or.inr ⟨hn, hpos, by omega⟩), hm0, hm1, rfl⟩
        · have hx := mul_bd (x := -(all + m)) (m := 20000000000) (by omega) (by omega) ht0 ht1
          rw [Int.neg_mul] at hx
          have e1 : wrap64 (Int.tdiv (wrap64 ((all + m) * t)) 1000000000) ≤ 0 := by
            rw [w64_in (n := (all + m) * t) (by omega) (by omega)]
            have e2 : Int.tdiv ((all + m) * t) 1000000000 = -(Int.tdiv (-((all + m) * t)) 1000000000) := by rw [Int.neg_tdiv]; omega
            rw [e2, tdiv_pos (by omega), w64_in (by omega) (by omega)]
            omega
          rw [if_pos (by omega)]
          exact ⟨k', m', by omega, r2, r3, r4, r5⟩
      · rw [if_neg hn]
        exact ⟨k, m, by omega, Or.inl (by omega), hm0, hm1, rfl⟩

/-- THE LAYER's THEOREM, in numbers. -/
theorem truth (th ho ba cl off m t prec : Int) (h1 : 0 ≤ th) (h2 : th ≤ 4294967295) (h3 : 0 ≤ ho) (h4 : ho ≤ 4294967295) (h5 : 0 ≤ ba) (h6 : ba ≤ 4294967295) (h7 : -2147483648 ≤ cl) (h8 : cl ≤ 2147483647) (h9 : -2147483648 ≤ off) (h10 : off ≤ 2147483647) (h11 : -2147483648 ≤ m) (h12 : m ≤ 2147483647)
    (ht : tolr t) (hp0 : 1 ≤ prec) (hp1 : prec ≤ 65536) (hal : allowed (th + ho + ba) t m) :
    ∃ o d p, ofS (cl - (th + ho + ba) - m) (cl + off - ba - ho) (cl + off - ba) cl prec t = (o, d, p, cl, 0) ∧ fine o d p cl ∧ o - ((d + 1) / 2 + p) ≤ off ∧ off ≤ o + ((d + 1) / 2 + p) := by
  have hE : 0 ≤ th + ho + ba + m := by
    rcases hal with h | h | h <;> omega
  have hx := mul_bd (x := th + ho + ba + m) (m := 20000000000) hE (by omega) ht.1 ht.2
  have hmr : (th + ho + ba + m) * t / 1000000000 ≤ more (th + ho + ba + m) t ∧ 0 ≤ more (th + ho + ba + m) t ∧ more (th + ho + ba + m) t ≤ 10000001 := by
    unfold more
    rw [Int.neg_mul]
    omega
  have hm : -m ≤ more (th + ho + ba + m) t := by
    rcases hal with h | h | h <;> omega
  clear hal hx
  have ha : asks (cl - (th + ho + ba) - m) (cl + off - ba - ho) (cl + off - ba) cl prec t := ⟨⟨by omega, by omega⟩, ⟨by omega, by omega⟩, ⟨by omega, by omega⟩, ⟨by omega, by omega⟩, by omega, by omega, ht⟩
  have e4 : cl - (cl - (th + ho + ba) - m) = th + ho + ba + m := by omega
  unfold ofS
  rw [if_pos ha, if_neg (by omega), e4]
  generalize more (th + ho + ba + m) t = g at *
  have hf : fine ((cl + off - ba - ho - (cl - (th + ho + ba) - m) + (cl + off - ba - cl)) / 2) (max prec (th + ho + ba + m - (cl + off - ba - (cl + off - ba - ho)))) (prec + g) cl := by
    refine ⟨⟨by omega, by omega⟩, ⟨by omega, by omega⟩, by omega, by omega, by omega, by omega⟩
  unfold keep
  rw [if_pos hf]
  exact ⟨_, _, _, rfl, hf, by omega, by omega⟩

theorem SampleTruth_pure (th ho ba mo cl off p tol : Int) (h1 : 0 ≤ th) (h2 : th ≤ 4294967295) (h3 : 0 ≤ ho) (h4 : ho ≤ 4294967295) (h5 : 0 ≤ ba) (h6 : ba ≤ 4294967295) (m0 : -2147483648 ≤ mo) (m1 : mo ≤ 2147483647) (h7 : -2147483648 ≤ cl) (h8 : cl ≤ 2147483647) (h9 : -2147483648 ≤ off) (h10 : off ≤ 2147483647) (p0 : 0 ≤ p) (p1 : p ≤ 65535) (t0 : 0 ≤ tol) (t1 : tol ≤ 4294967295) :
    timesynclaw21_SampleTruth.f 300 th ho ba mo cl off p tol = some true := by
  unfold timesynclaw21_SampleTruth.f
  rw [w64_in (n := tol) (by omega) (by omega), tmod_pos t0, w64_in (n := th) (by omega) (by omega), w64_in (n := ho) (by omega) (by omega), w64_in (n := ba) (by omega) (by omega), w64_in (n := mo) (by omega) (by omega), w64_in (n := th + ho) (by omega) (by omega), w64_in (n := th + ho + ba) (by omega) (by omega)]
  have ht : tolr (tol % 500001) := ⟨by omega, by omega⟩
  obtain ⟨k', m, hk, hal, b0, b1, e⟩ := cut_tells p (tol % 500001) (th + ho + ba) th ho ba mo cl off ht.1 ht.2 (by omega) (by omega) 40 300 mo m0 m1 (by
    have e : (2 : Int) ^ 40 = 1099511627776 := by decide
    omega) (by omega)
  rw [e]
  obtain ⟨k', rfl⟩ : ∃ q, k' = q + 1 := ⟨k' - 1, by omega⟩
  simp only [timesynclaw21_SampleTruth.j1]
  obtain ⟨o, d, q, e1, hf, hlo, hhi⟩ := truth th ho ba cl off m (tol % 500001) (p + 1) h1 h2 h3 h4 h5 h6 h7 h8 h9 h10 b0 b1 ht (by omega) (by omega) hal
  rw [quad_tells th ho ba mo cl off m h1 h2 h3 h4 h5 h6 h7 h8 h9 h10 b0 b1]
  simp only [Option.bind_some]
  rw [w64_in (n := p) (by omega) (by omega), w64_in (n := p + 1) (by omega) (by omega), Of_tells _ _ _ _ _ _ k' (by omega), e1]
  simp only [Option.bind_some]
  rw [Bounds_tells, Check_tells, w64_in (n := off) (by omega) (by omega)]
  simp only [Option.bind_some]
  unfold bounds
  rw [if_pos hf, if_pos hf, if_pos trivial, if_pos hlo, if_pos hhi, if_pos rfl, awake_tells k' (by omega)]
  rfl

theorem SampleTruth_walk (a0_0 a0_1 a0_2 a0_3 a0_4 a0_5 a1 a2 : Int) (w : World) (w0_0 : (Lit.int .u32 a0_0).wf = true) (w0_1 : (Lit.int .u32 a0_1).wf = true) (w0_2 : (Lit.int .u32 a0_2).wf = true) (w0_3 : (Lit.int .i32 a0_3).wf = true) (w0_4 : (Lit.int .i32 a0_4).wf = true) (w0_5 : (Lit.int .i32 a0_5).wf = true) (w1 : (Lit.int .u16 a1).wf = true) (w2 : (Lit.int .u32 a2).wf = true) :
    Calls Try.prog 5 #[.agg #[.int .u32 a0_0, .int .u32 a0_1, .int .u32 a0_2, .int .i32 a0_3, .int .i32 a0_4, .int .i32 a0_5], .int .u16 a1, .int .u32 a2] w fun e w' => e = .returned (.bool true) ∧ Below w.heap.size w w' :=
  timesynclaw21_SampleTruth.calls 300 a0_0 a0_1 a0_2 a0_3 a0_4 a0_5 a1 a2 true w
    (SampleTruth_pure _ _ _ _ _ _ _ _ (wfu32 w0_0).1 (wfu32 w0_0).2 (wfu32 w0_1).1 (wfu32 w0_1).2 (wfu32 w0_2).1 (wfu32 w0_2).2 (wf32 w0_3).1 (wf32 w0_3).2 (wf32 w0_4).1 (wf32 w0_4).2 (wf32 w0_5).1 (wf32 w0_5).2 (wfu16 w1).1 (wfu16 w1).2 (wfu32 w2).1 (wfu32 w2).2)

end Go.Proofs.Ytkldnopfgcenhaa.Pure
