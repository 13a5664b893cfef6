/- The law SampleEqual: where both messages take the same time and the clocks run alike, the Offset is the true one, the Delay what both take, at least the precision, At the client's clock, and Disp above the precision; and the chapter's examples hold. No condition. -/
import Derived.Test.YtkldnopfgcenhaaSampBase
import Derived.Test.YtkldnopfgcenhaaPAllx36
namespace Go.Proofs.Ytkldnopfgcenhaa.Pure
open Go Go.RowKit Go.Proofs.Ytkldnopfgcenhaa.PAll Go.Proofs.Ytkldnopfgcenhaa.Num Go.Proofs.YtkldnopfgcenhaaW.PrintWords Go.Proofs.YtkldnopfgcenhaaW.PrintMore
set_option linter.unusedVariables false

theorem quad_tells (th ho ba mo cl off m : Int) (h1 : 0 ≤ th) (h2 : th ≤ 4294967295) (h3 : 0 ≤ ho) (h4 : ho ≤ 4294967295) (h5 : 0 ≤ ba) (h6 : ba ≤ 4294967295) (h7 : -2147483648 ≤ cl) (h8 : cl ≤ 2147483647) (h9 : -2147483648 ≤ off) (h10 : off ≤ 2147483647) (h11 : -2147483648 ≤ m) (h12 : m ≤ 2147483647) :
    timesynclaw21_quad.f th ho ba mo cl off m = some (cl - (th + ho + ba) - m, cl + off - ba - ho, cl + off - ba, cl) := by
  unfold timesynclaw21_quad.f
  rw [w64_in (n := th) (by omega) (by omega), w64_in (n := ho) (by omega) (by omega), w64_in (n := ba) (by omega) (by omega), w64_in (n := cl) (by omega) (by omega), w64_in (n := off) (by omega) (by omega), w64_in (n := th + ho) (by omega) (by omega), w64_in (n := th + ho + ba) (by omega) (by omega), w64_in (n := cl - (th + ho + ba)) (by omega) (by omega), w64_in (n := cl - (th + ho + ba) - m) (by omega) (by omega), w64_in (n := cl + off) (by omega) (by omega), w64_in (n := cl + off - ba) (by omega) (by omega), w64_in (n := cl + off - ba - ho) (by omega) (by omega)]

theorem SampleEqual_pure (th ho ba mo cl off p tol : Int) (h1 : 0 ≤ th) (h2 : th ≤ 4294967295) (h3 : 0 ≤ ho) (h4 : ho ≤ 4294967295) (h7 : -2147483648 ≤ cl) (h8 : cl ≤ 2147483647) (h9 : -2147483648 ≤ off) (h10 : off ≤ 2147483647) (p0 : 0 ≤ p) (p1 : p ≤ 65535) (t0 : 0 ≤ tol) (t1 : tol ≤ 4294967295) :
    timesynclaw21_SampleEqual.f 300 th ho ba mo cl off p tol = some true := by
  unfold timesynclaw21_SampleEqual.f
  rw [w64_in (n := tol) (by omega) (by omega), tmod_pos t0, w64_in (n := th) (by omega) (by omega), w64_in (n := p) (by omega) (by omega), w64_in (n := cl) (by omega) (by omega), w64_in (n := off) (by omega) (by omega), w64_in (n := p + 1) (by omega) (by omega), w64_in (n := 2 * th) (by omega) (by omega)]
  have ht : tolr (tol % 500001) := ⟨by omega, by omega⟩
  rw [quad_tells th ho th mo cl off 0 h1 h2 h3 h4 h1 h2 h7 h8 h9 h10 (by omega) (by omega)]
  simp only [Option.bind_some]
  rw [Of_tells _ _ _ _ _ _ 300 (by omega)]
  simp only [Option.bind_some]
  have ha : asks (cl - (th + ho + th) - 0) (cl + off - th - ho) (cl + off - th) cl (p + 1) (tol % 500001) := ⟨⟨by omega, by omega⟩, ⟨by omega, by omega⟩, ⟨by omega, by omega⟩, ⟨by omega, by omega⟩, by omega, by omega, ht⟩
  have e4 : cl - (cl - (th + ho + th) - 0) = th + ho + th := by omega
  have hg := more_bd (th + ho + th) (tol % 500001) (by omega) (by omega) ht
  have eo : (cl + off - th - ho - (cl - (th + ho + th) - 0) + (cl + off - th - cl)) / 2 = off := by omega
  have ed : max (p + 1) (th + ho + th - (cl + off - th - (cl + off - th - ho))) = mx (2 * th) (p + 1) := by unfold mx; omega
  have hmx : mx (2 * th) (p + 1) = max (2 * th) (p + 1) := by unfold mx; omega
  have hf : fine off (mx (2 * th) (p + 1)) (p + 1 + more (th + ho + th) (tol % 500001)) cl := by
    rw [hmx]
    exact ⟨⟨by omega, by omega⟩, ⟨by omega, by omega⟩, by omega, by omega, by omega, by omega⟩
  have r : ofS (cl - (th + ho + th) - 0) (cl + off - th - ho) (cl + off - th) cl (p + 1) (tol % 500001) = (off, mx (2 * th) (p + 1), p + 1 + more (th + ho + th) (tol % 500001), cl, 0) := by
    unfold ofS keep
    rw [if_pos ha, if_neg (by omega), e4, eo, ed, if_pos hf]
  rw [r]
  simp only [if_true]
  rw [if_pos (by omega), awake_tells 300 (by omega)]
  rfl

theorem SampleEqual_walk (a0_0 a0_1 a0_2 a0_3 a0_4 a0_5 a1 a2 : Int) (w : World) (w0_0 : (Lit.int .u32 a0_0).wf = true) (w0_1 : (Lit.int .u32 a0_1).wf = true) (w0_2 : (Lit.int .u32 a0_2).wf = true) (w0_3 : (Lit.int .i32 a0_3).wf = true) (w0_4 : (Lit.int .i32 a0_4).wf = true) (w0_5 : (Lit.int .i32 a0_5).wf = true) (w1 : (Lit.int .u16 a1).wf = true) (w2 : (Lit.int .u32 a2).wf = true) :
    Calls Try.prog 6 #[.agg #[.int .u32 a0_0, .int .u32 a0_1, .int .u32 a0_2, .int .i32 a0_3, .int .i32 a0_4, .int .i32 a0_5], .int .u16 a1, .int .u32 a2] w fun e w' => e = .returned (.bool true) ∧ Below w.heap.size w w' :=
  timesynclaw21_SampleEqual.calls 300 a0_0 a0_1 a0_2 a0_3 a0_4 a0_5 a1 a2 true w
    (SampleEqual_pure _ _ _ _ _ _ _ _ (wfu32 w0_0).1 (wfu32 w0_0).2 (wfu32 w0_1).1 (wfu32 w0_1).2 (wf32 w0_4).1 (wf32 w0_4).2 (wf32 w0_5).1 (wf32 w0_5).2 (wfu16 w1).1 (wfu16 w1).2 (wfu32 w2).1 (wfu32 w2).2)

end Go.Proofs.Ytkldnopfgcenhaa.Pure
