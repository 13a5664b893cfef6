/- The law SampleShifts: a server's clock that is ahead by d more makes the Offset greater by d, and with both clocks ahead by d more only At is greater by d; and the chapter's examples hold. No condition. -/
import Derived.Test.YtkldnopfgcenhaaSampBase
import Derived.Test.YtkldnopfgcenhaaPAllx37
namespace Go.Proofs.Ytkldnopfgcenhaa.Pure
open Go Go.RowKit Go.Proofs.Ytkldnopfgcenhaa.PAll Go.Proofs.Ytkldnopfgcenhaa.Num Go.Proofs.YtkldnopfgcenhaaW.PrintWords Go.Proofs.YtkldnopfgcenhaaW.PrintMore
set_option linter.unusedVariables false

theorem quad_tells (th ho ba mo cl off m : Int) (h1 : 0 ≤ th) (h2 : th ≤ 4294967295) (h3 : 0 ≤ ho) (h4 : ho ≤ 4294967295) (h5 : 0 ≤ ba) (h6 : ba ≤ 4294967295) (h7 : -2147483648 ≤ cl) (h8 : cl ≤ 2147483647) (h9 : -2147483648 ≤ off) (h10 : off ≤ 2147483647) (h11 : -2147483648 ≤ m) (h12 : m ≤ 2147483647) :
    timesynclaw21_quad.f th ho ba mo cl off m = some (cl - (th + ho + ba) - m, cl + off - ba - ho, cl + off - ba, cl) := by
  unfold timesynclaw21_quad.f
  rw [w64_in (n := th) (by omega) (by omega), w64_in (n := ho) (by omega) (by omega), w64_in (n := ba) (by omega) (by omega), w64_in (n := cl) (by omega) (by omega), w64_in (n := off) (by omega) (by omega), w64_in (n := th + ho) (by omega) (by omega), w64_in (n := th + ho + ba) (by omega) (by omega), w64_in (n := cl - (th + ho + ba)) (by omega) (by omega), w64_in (n := cl - (th + ho + ba) - m) (by omega) (by omega), w64_in (n := cl + off) (by omega) (by omega), w64_in (n := cl + off - ba) (by omega) (by omega), w64_in (n := cl + off - ba - ho) (by omega) (by omega)]

theorem SampleShifts_pure (th ho ba mo cl off s p tol : Int) (h1 : 0 ≤ th) (h2 : th ≤ 4294967295) (h3 : 0 ≤ ho) (h4 : ho ≤ 4294967295) (h5 : 0 ≤ ba) (h6 : ba ≤ 4294967295) (h7 : -2147483648 ≤ cl) (h8 : cl ≤ 2147483647) (h9 : -2147483648 ≤ off) (h10 : off ≤ 2147483647) (s0 : -2147483648 ≤ s) (s1 : s ≤ 2147483647) (p0 : 0 ≤ p) (p1 : p ≤ 65535) (t0 : 0 ≤ tol) (t1 : tol ≤ 4294967295) :
    timesynclaw21_SampleShifts.f 300 th ho ba mo cl off s p tol = some true := by
  unfold timesynclaw21_SampleShifts.f
  have ht : tolr (tol % 500001) := ⟨by omega, by omega⟩
  rw [w64_in (n := tol) (by omega) (by omega), tmod_pos t0, w64_in (n := p) (by omega) (by omega), w64_in (n := s) (by omega) (by omega), w64_in (n := p + 1) (by omega) (by omega)]
  rw [quad_tells th ho ba mo cl off 0 h1 h2 h3 h4 h5 h6 h7 h8 h9 h10 (by omega) (by omega)]
  simp only [Option.bind_some]
  generalize hq1 : cl - (th + ho + ba) - 0 = q1
  generalize hq2 : cl + off - ba - ho = q2
  generalize hq3 : cl + off - ba = q3
  rw [w64_in (n := q2 + s) (by omega) (by omega), w64_in (n := q3 + s) (by omega) (by omega), w64_in (n := q1 + s) (by omega) (by omega), w64_in (n := cl + s) (by omega) (by omega)]
  rw [Of_tells q1 q2 q3 cl _ _ 300 (by omega), Of_tells q1 (q2 + s) (q3 + s) cl _ _ 300 (by omega), Of_tells (q1 + s) (q2 + s) (q3 + s) (cl + s) _ _ 300 (by omega)]
  simp only [Option.bind_some]
  have ha : asks q1 q2 q3 cl (p + 1) (tol % 500001) := ⟨⟨by omega, by omega⟩, ⟨by omega, by omega⟩, ⟨by omega, by omega⟩, ⟨by omega, by omega⟩, by omega, by omega, ht⟩
  have hb : asks q1 (q2 + s) (q3 + s) cl (p + 1) (tol % 500001) := ⟨⟨by omega, by omega⟩, ⟨by omega, by omega⟩, ⟨by omega, by omega⟩, ⟨by omega, by omega⟩, by omega, by omega, ht⟩
  have hc : asks (q1 + s) (q2 + s) (q3 + s) (cl + s) (p + 1) (tol % 500001) := ⟨⟨by omega, by omega⟩, ⟨by omega, by omega⟩, ⟨by omega, by omega⟩, ⟨by omega, by omega⟩, by omega, by omega, ht⟩
  have hg := more_bd (cl - q1) (tol % 500001) (by omega) (by omega) ht
  have e1 : cl + s - (q1 + s) = cl - q1 := by omega
  have e2 : q2 + s - q1 + (q3 + s - cl) = q2 - q1 + (q3 - cl) + s * 2 := by omega
  have e3 : q3 + s - (q2 + s) = q3 - q2 := by omega
  have e4 : q2 + s - (q1 + s) + (q3 + s - (cl + s)) = q2 - q1 + (q3 - cl) := by omega
  have e5 : (q2 - q1 + (q3 - cl) + s * 2) / 2 = (q2 - q1 + (q3 - cl)) / 2 + s := by omega
  have r : ofS q1 q2 q3 cl (p + 1) (tol % 500001) = ((q2 - q1 + (q3 - cl)) / 2, max (p + 1) (cl - q1 - (q3 - q2)), p + 1 + more (cl - q1) (tol % 500001), cl, 0) := by
    unfold ofS keep
    rw [if_pos ha, if_neg (by omega), if_pos ⟨⟨by omega, by omega⟩, ⟨by omega, by omega⟩, by omega, by omega, by omega, by omega⟩]
  have r2 : ofS q1 (q2 + s) (q3 + s) cl (p + 1) (tol % 500001) = ((q2 - q1 + (q3 - cl)) / 2 + s, max (p + 1) (cl - q1 - (q3 - q2)), p + 1 + more (cl - q1) (tol % 500001), cl, 0) := by
    unfold ofS keep
    rw [if_pos hb, if_neg (by omega), e2, e3, e5, if_pos ⟨⟨by omega, by omega⟩, ⟨by omega, by omega⟩, by omega, by omega, by omega, by omega⟩]
  have r3 : ofS (q1 + s) (q2 + s) (q3 + s) (cl + s) (p + 1) (tol % 500001) = ((q2 - q1 + (q3 - cl)) / 2, max (p + 1) (cl - q1 - (q3 - q2)), p + 1 + more (cl - q1) (tol % 500001), cl + s, 0) := by
    unfold ofS keep
    rw [if_pos hc, if_neg (by omega), e4, e3, e1, if_pos ⟨⟨by omega, by omega⟩, ⟨by omega, by omega⟩, by omega, by omega, by omega, by omega⟩]
  rw [r, r2, r3]
  generalize p + 1 + more (cl - q1) (tol % 500001) = g at *
  generalize hd : max (p + 1) (cl - q1 - (q3 - q2)) = d at *
  generalize hoo : (q2 - q1 + (q3 - cl)) / 2 = o at *
  have x1 : wrap64 (o + s - s) = o := by rw [w64_in (by omega) (by omega)]; omega
  have x2 : wrap64 (cl + s - s) = cl := by rw [w64_in (by omega) (by omega)]; omega
  simp only [if_true, bne_self_eq_false]
  have e300 : timesynclaw21_SampleShifts.j0 300 s false o d g cl (o + s) d g cl o d g (cl + s) = some true := by
    have ws : wrap64 s = s := w64_in (by omega) (by omega)
    simp only [timesynclaw21_SampleShifts.j0, ws, x1, x2, beq_self_eq_true, Bool.and_self, if_true]
    rw [if_neg (by decide), awake_tells 299 (by omega)]
    rfl
  exact e300

theorem SampleShifts_walk (a0_0 a0_1 a0_2 a0_3 a0_4 a0_5 a1 a2 a3 : Int) (w : World) (w0_0 : (Lit.int .u32 a0_0).wf = true) (w0_1 : (Lit.int .u32 a0_1).wf = true) (w0_2 : (Lit.int .u32 a0_2).wf = true) (w0_3 : (Lit.int .i32 a0_3).wf = true) (w0_4 : (Lit.int .i32 a0_4).wf = true) (w0_5 : (Lit.int .i32 a0_5).wf = true) (w1 : (Lit.int .i32 a1).wf = true) (w2 : (Lit.int .u16 a2).wf = true) (w3 : (Lit.int .u32 a3).wf = true) :
    Calls Try.prog 7 #[.agg #[.int .u32 a0_0, .int .u32 a0_1, .int .u32 a0_2, .int .i32 a0_3, .int .i32 a0_4, .int .i32 a0_5], .int .i32 a1, .int .u16 a2, .int .u32 a3] w fun e w' => e = .returned (.bool true) ∧ Below w.heap.size w w' :=
  timesynclaw21_SampleShifts.calls 300 a0_0 a0_1 a0_2 a0_3 a0_4 a0_5 a1 a2 a3 true w
    (SampleShifts_pure _ _ _ _ _ _ _ _ _ (wfu32 w0_0).1 (wfu32 w0_0).2 (wfu32 w0_1).1 (wfu32 w0_1).2 (wfu32 w0_2).1 (wfu32 w0_2).2 (wf32 w0_4).1 (wf32 w0_4).2 (wf32 w0_5).1 (wf32 w0_5).2 (wf32 w1).1 (wf32 w1).2 (wfu16 w2).1 (wfu16 w2).2 (wfu32 w3).1 (wfu32 w3).2)

end Go.Proofs.Ytkldnopfgcenhaa.Pure
