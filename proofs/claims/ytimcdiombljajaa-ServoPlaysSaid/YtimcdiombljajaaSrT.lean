/- The reference's Sample, in one. -/
import Derived.Test.YtimcdiombljajaaSrZ0
import Derived.Test.YtimcdiombljajaaSrZ1
import Derived.Test.YtimcdiombljajaaSrZ2
namespace Go.Proofs.Ytimcdiombljajaa.Sv
open Go Go.RowKit Go.Proofs.YtimcdiombljajaaW.PrintWords Go.Proofs.YtimcdiombljajaaW.PrintLast Go.Proofs.YtimcdiombljajaaW.PrintMore Go.Proofs.Ytimcdiombljajaa.PAll Go.Proofs.Ytimcdiombljajaa.PureDiv
set_option linter.unusedVariables false
set_option linter.unusedSimpArgs false

theorem rsample_in (b : Nat) (c : Conf) (I n last : Int) (off span : Int) (w : World) (hb : w.heap[b]? = some (rvo c ⟨I, n, last⟩)) (hc : okC c.kp c.ki c.li c.sf c.sl) (h : inS off span) :
    Calls Try.prog 20 #[.pointer (some ⟨b, 0, none⟩), .int .i64 off, .int .i64 span] w fun e w' =>
      e = .returned (.tuple #[.agg #[.int .i64 (act c ⟨I, n, last⟩ off span).1, .int .i64 (act c ⟨I, n, last⟩ off span).2.1], .int .i64 (act c ⟨I, n, last⟩ off span).2.2]) ∧ w'.heap[b]? = some (rvo c (nxt c ⟨I, n, last⟩ off span)) ∧ Upd w w' b := by
  cases hn : (n == 0) with
  | true =>
    by_cases hz : off < 0
    · by_cases ht : 0 < c.sf
      · by_cases hs : c.sf < -off
        · exact rsample_S11 b c I n last off span w hb hc h hn hz ht hs
        · exact rsample_P11 b c I n last off span w hb hc h hn hz ht hs
      · exact rsample_Q11 b c I n last off span w hb hc h hn hz ht
    · by_cases ht : 0 < c.sf
      · by_cases hs : c.sf < off
        · exact rsample_S10 b c I n last off span w hb hc h hn hz ht hs
        · exact rsample_P10 b c I n last off span w hb hc h hn hz ht hs
      · exact rsample_Q10 b c I n last off span w hb hc h hn hz ht
  | false =>
    by_cases hz : off < 0
    · by_cases ht : 0 < c.sl
      · by_cases hs : c.sl < -off
        · exact rsample_S01 b c I n last off span w hb hc h hn hz ht hs
        · exact rsample_P01 b c I n last off span w hb hc h hn hz ht hs
      · exact rsample_Q01 b c I n last off span w hb hc h hn hz ht
    · by_cases ht : 0 < c.sl
      · by_cases hs : c.sl < off
        · exact rsample_S00 b c I n last off span w hb hc h hn hz ht hs
        · exact rsample_P00 b c I n last off span w hb hc h hn hz ht hs
      · exact rsample_Q00 b c I n last off span w hb hc h hn hz ht
theorem rsample_to (b : Nat) (c : Conf) (s s' : St) (k v er off span : Int) (w : World) (hb : w.heap[b]? = some (rvo c s)) (hc : okC c.kp c.ki c.li c.sf c.sl) (h1 : act c s off span = (k, v, er)) (h2 : nxt c s off span = s') :
    Calls Try.prog 20 #[.pointer (some ⟨b, 0, none⟩), .int .i64 off, .int .i64 span] w fun e w' =>
      e = .returned (.tuple #[.agg #[.int .i64 k, .int .i64 v], .int .i64 er]) ∧ w'.heap[b]? = some (rvo c s') ∧ Upd w w' b := by
  subst h2
  by_cases h : inS off span
  · obtain ⟨I, n, last⟩ := s
    have hh := rsample_in b c I n last off span w hb hc h
    rw [h1] at hh
    exact hh
  · have hh := rsample_range b c s off span w hb h
    unfold act at h1
    rw [if_neg h] at h1
    unfold nxt
    rw [if_neg h]
    injection h1 with e1 e2
    injection e2 with e2 e3
    subst e1 e2 e3
    exact hh
end Go.Proofs.Ytimcdiombljajaa.Sv
