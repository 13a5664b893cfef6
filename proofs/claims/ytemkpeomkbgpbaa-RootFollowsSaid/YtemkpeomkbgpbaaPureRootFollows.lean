/- The law RootFollows: a node that follows a server whose header has the fields of a root has the next stratum, is not better than that root and not nearer; and the chapter's examples hold. No condition. -/
import Derived.Test.YtemkpeomkbgpbaaRootBase
import Derived.Test.YtemkpeomkbgpbaaMulFix
import Derived.Test.YtemkpeomkbgpbaaPAllx44
import Derived.Test.YtemkpeomkbgpbaaRootOrder
import Derived.Test.YtemkpeomkbgpbaaPAllx49
namespace Go.Proofs.Ytemkpeomkbgpbaa.Pure
open Go Go.RowKit Go.Proofs.Ytemkpeomkbgpbaa.PAll Go.Proofs.Ytemkpeomkbgpbaa.Num Go.Proofs.Ytemkpeomkbgpbaa.PureDiv Go.Proofs.YtemkpeomkbgpbaaW.PrintWords Go.Proofs.YtemkpeomkbgpbaaW.PrintMore
set_option linter.unusedVariables false

/-- the short form, rounded up -/
def units (n : Int) : Int := -(-n * 65536 / 1000000000)
def short (n : Int) : Int × Int := if units n > 4294967295 then (0, 3) else (units n, 0)

theorem Short_tells (n : Int) (h0 : 0 ≤ n) (h1 : n ≤ 9007199254740992) (k : Nat) (hk : 20 ≤ k) : stamp_Short.f k n = some (short n) := by
  unfold stamp_Short.f short units
  rw [if_neg (by omega), w64_in (n := -n) (by omega) (by omega), MulDiv_tells _ _ _ (by omega) (by omega) (by omega) (by omega) (by omega) (by omega) k hk, md_in (by omega) (by omega)]
  simp only [Option.bind_some, if_true]
  rw [w64_in (n := -(-n * 65536 / 1000000000)) (by omega) (by omega)]
  by_cases h : -(-n * 65536 / 1000000000) > 4294967295
  · rw [if_pos h, if_pos h]
  · rw [if_neg h, if_neg h]
    congr 2
    omega

/-- both fields of a root -/
def fields (s d p : Int) : Int × Int × Int := if good s d p then (if units d > 4294967295 ∨ units p > 4294967295 then (0, 0, 3) else (units d, units p, 0)) else (0, 0, 3)

theorem Fields_tells (s d p i : Int) (k : Nat) (hk : 20 ≤ k) : root_Fields.f k s d p i = some (fields s d p) := by
  unfold root_Fields.f fields
  rw [Check_tells]
  simp only [Option.bind_some]
  by_cases g : good s d p
  · rw [if_pos g, if_pos rfl, if_pos g]
    obtain ⟨g1, g2, g3, g4, g5, g6⟩ := g
    rw [Short_tells d g3 g4 k hk, Short_tells p g5 g6 k hk]
    simp only [Option.bind_some]
    unfold short
    by_cases hd : units d > 4294967295
    · rw [if_pos hd, if_pos (show units d > 4294967295 ∨ units p > 4294967295 from Or.inl hd)]
      rfl
    · rw [if_neg hd]
      by_cases hp : units p > 4294967295
      · rw [if_pos hp, if_pos (show units d > 4294967295 ∨ units p > 4294967295 from Or.inr hp)]
        rfl
      · rw [if_neg hp, if_neg (show ¬ (units d > 4294967295 ∨ units p > 4294967295) from fun z => z.elim hd hp)]
        rfl
  · rw [if_neg g, if_neg (by decide), if_neg g]

def long (a : Int) : Int := (a * 1000000000 + 65535) / 65536
theorem Long_tells (a : Int) (h0 : 0 ≤ a) (h1 : a ≤ 4294967295) : stamp_Long.f a = some (long a) := by
  unfold stamp_Long.f long
  rw [w64_in (n := a) (by omega) (by omega), w64_in (n := a * 1000000000) (by omega) (by omega), w64_in (n := a * 1000000000 + 65536) (by omega) (by omega), w64_in (by omega) (by omega)]
  congr 1
  omega
theorem long_units (d : Int) (h0 : 0 ≤ d) (h1 : d ≤ 9007199254740992) : 0 ≤ units d ∧ d ≤ long (units d) := by unfold long units; omega

/-- a valid sample -/
def fine (o d p t : Int) : Prop := -4503599627370496 ≤ o ∧ o ≤ 4503599627370496 ∧ -4503599627370496 ≤ t ∧ t ≤ 4503599627370496 ∧ 0 ≤ d ∧ d ≤ 9007199254740992 ∧ 0 ≤ p ∧ p ≤ 9007199254740992
instance (o d p t : Int) : Decidable (fine o d p t) := by unfold fine; infer_instance
theorem inside_tells (n : Int) : sample_inside.f n = some (decide (-4503599627370496 ≤ n ∧ n ≤ 4503599627370496)) := by
  unfold sample_inside.f
  by_cases h : n ≥ -4503599627370496
  · rw [if_pos h]
    congr 1
    rw [decide_eq_decide]
    omega
  · rw [if_neg h, decide_eq_false (fun z => h z.1)]
theorem sCheck_tells (o d p t : Int) : sample_Check.f o d p t = some (if fine o d p t then 0 else 3) := by
  unfold sample_Check.f
  rw [inside_tells, inside_tells]
  simp only [Option.bind_some, decide_eq_true_eq]
  by_cases g : fine o d p t
  · obtain ⟨g1, g2, g3, g4, g5, g6, g7, g8⟩ := g
    rw [if_pos ⟨g1, g2⟩, if_pos ⟨g3, g4⟩, if_neg (by omega), if_neg (by omega), if_neg (by omega), if_neg (by omega), if_pos ⟨g1, g2, g3, g4, g5, g6, g7, g8⟩]
  · rw [if_neg g]
    unfold fine at g
    repeat' split
    all_goals first | rfl | omega

theorem nCheck_tells (s a b i : Int) (h0 : 1 ≤ s) (h1 : s ≤ 15) : ntpmsg_Check.f 0 4 4 s 0 0 a b i 0 0 0 0 = some 0 := by
  unfold ntpmsg_Check.f ntpmsg_in.f
  have e : (if s ≥ 0 then some (decide (s ≤ 255)) else some false) = some true := by rw [if_pos (by omega), decide_eq_true (by omega)]
  simp only [e]
  decide
theorem nSynced_tells (s a b i : Int) (h0 : 1 ≤ s) (h1 : s ≤ 15) : ntpmsg_Synced.f 0 4 4 s 0 0 a b i 0 0 0 0 = some true := by
  unfold ntpmsg_Synced.f ntpmsg_in.f
  rw [if_neg (by decide), if_pos (by omega), decide_eq_true (by omega)]
  rfl

theorem Join_tells (s a b i o d p t id : Int) (h0 : 1 ≤ s) (h1 : s ≤ 15) (a0 : 0 ≤ a) (a1 : a ≤ 4294967295) (b0 : 0 ≤ b) (b1 : b ≤ 4294967295) (k : Nat) (hk : 1 ≤ k) :
    root_Join.f k 0 4 4 s 0 0 a b i 0 0 0 0 o d p t id = some (if fine o d p t then (if good (s + 1) (long a + d) (long b + p + max o (-o)) then (s + 1, long a + d, long b + p + max o (-o), id, 0) else (0, 0, 0, 0, 3)) else (0, 0, 0, 0, 2)) := by
  obtain ⟨k, rfl⟩ : ∃ m, k = m + 1 := ⟨k - 1, by omega⟩
  unfold root_Join.f
  rw [nCheck_tells s a b i h0 h1, sCheck_tells]
  simp only [Option.bind_some]
  rw [if_pos trivial]
  by_cases g : fine o d p t
  · rw [if_pos g, if_pos g]
    obtain ⟨g1, g2, g3, g4, g5, g6, g7, g8⟩ := g
    simp only [root_Join.j0]
    rw [if_neg (by decide), nSynced_tells s a b i h0 h1]
    simp only [Option.bind_some]
    rw [if_pos trivial, Long_tells a a0 a1, Long_tells b b0 b1]
    simp only [Option.bind_some]
    have hl : 0 ≤ long a ∧ long a ≤ 65536000000000 ∧ 0 ≤ long b ∧ long b ≤ 65536000000000 := by unfold long; omega
    have hm : mx o (wrap64 (-o)) = max o (-o) := by unfold mx; rw [w64_in (by omega) (by omega)]; omega
    rw [hm, w64_in (n := s + 1) (by omega) (by omega), w64_in (n := long a + d) (by omega) (by omega), w64_in (n := long b + p) (by omega) (by omega), w64_in (n := long b + p + max o (-o)) (by omega) (by omega), valid_tells]
    simp only [Option.bind_some]
  · rw [if_neg g, if_neg g]
    simp [root_Join.j0]

theorem RootFollows_pure (s d p i o e q t id : Int) : timesynclaw29_RootFollows.f 200 s d p i o e q t id = some true := by
  have A : ∀ k, 100 ≤ k → timesynclaw29_awake.f k = some true := fun k hk => awake_tells k (by omega)
  have skip : timesynclaw29_RootFollows.f 200 s d p i o e q t id = timesynclaw29_RootFollows.f 200 s d p i o e q t id := rfl
  unfold timesynclaw29_RootFollows.f
  rw [Fields_tells s d p i 200 (by omega)]
  simp only [Option.bind_some]
  by_cases g : good s d p
  · by_cases hu : units d > 4294967295 ∨ units p > 4294967295
    · simp [fields, g, hu, timesynclaw29_RootFollows.j0, A 199 (by omega)]
    · unfold fields
      rw [if_pos g, if_neg hu, if_pos rfl]
      by_cases hs : s > 15
      · simp [hs, timesynclaw29_RootFollows.j0, A 199 (by omega)]
      · rw [decide_eq_false hs]
        have g' := g
        obtain ⟨g1, g2, g3, g4, g5, g6⟩ := g'
        have ld := long_units d g3 g4
        have lp := long_units p g5 g6
        have e199 : (200 : Nat) = 199 + 1 := rfl
        rw [e199]
        simp only [timesynclaw29_RootFollows.j0]
        rw [if_neg (by decide), nCheck_tells s _ _ i g1 (by omega)]
        simp only [Option.bind_some]
        rw [if_pos trivial, Long_tells _ ld.1 (by omega), Long_tells _ lp.1 (by omega)]
        simp only [Option.bind_some]
        rw [if_neg (by omega), decide_eq_false (by omega)]
        have e198 : (199 : Nat) = 198 + 1 := rfl
        rw [e198]
        simp only [timesynclaw29_RootFollows.j1]
        rw [if_neg (by decide), Join_tells s _ _ i o e q t id g1 (by omega) ld.1 (by omega) lp.1 (by omega) 198 (by omega)]
        simp only [Option.bind_some]
        by_cases gf : fine o e q t
        · rw [if_pos gf]
          by_cases gn : good (s + 1) (long (units d) + e) (long (units p) + q + max o (-o))
          · rw [if_pos gn, if_pos rfl, if_pos (by rw [w64_in (by omega) (by omega)]), Better_tells _ _ _ _ _ _ _ _ 198 (by omega)]
            simp only [Option.bind_some]
            have hb : before (s + 1) (long (units d) + e) (long (units p) + q + max o (-o)) id s d p i = false := by
              unfold before
              exact decide_eq_false (fun z => by omega)
            rw [hb, if_neg (by decide), Distance_tells, Distance_tells]
            simp only [Option.bind_some]
            have hd : dist (s + 1) (long (units d) + e) (long (units p) + q + max o (-o)) ≥ dist s d p := by
              unfold dist
              rw [if_pos gn, if_pos g]
              obtain ⟨f1, f2, f3, f4, f5, f6, f7, f8⟩ := gf
              omega
            rw [if_pos hd, if_pos trivial, A 198 (by omega)]
            rfl
          · rw [if_neg gn, if_neg (by decide), A 198 (by omega)]
            rfl
        · rw [if_neg gf, if_neg (by decide), A 198 (by omega)]
          rfl
  · simp [fields, g, timesynclaw29_RootFollows.j0, A 199 (by omega)]

theorem RootFollows_walk (a0_0 a0_1 a0_2 a0_3 a1_0 a1_1 a1_2 a1_3 a2 : Int) (w : World) (w0_0 : (Lit.int .i64 a0_0).wf = true) (w0_1 : (Lit.int .i64 a0_1).wf = true) (w0_2 : (Lit.int .i64 a0_2).wf = true) (w0_3 : (Lit.int .u32 a0_3).wf = true) (w1_0 : (Lit.int .i64 a1_0).wf = true) (w1_1 : (Lit.int .i64 a1_1).wf = true) (w1_2 : (Lit.int .i64 a1_2).wf = true) (w1_3 : (Lit.int .i64 a1_3).wf = true) (w2 : (Lit.int .u32 a2).wf = true) :
    Calls Try.prog 7 #[.agg #[.int .i64 a0_0, .int .i64 a0_1, .int .i64 a0_2, .int .u32 a0_3], .agg #[.int .i64 a1_0, .int .i64 a1_1, .int .i64 a1_2, .int .i64 a1_3], .int .u32 a2] w fun e w' => e = .returned (.bool true) ∧ Below w.heap.size w w' :=
  timesynclaw29_RootFollows.calls 200 a0_0 a0_1 a0_2 a0_3 a1_0 a1_1 a1_2 a1_3 a2 true w (RootFollows_pure _ _ _ _ _ _ _ _ _)

end Go.Proofs.Ytemkpeomkbgpbaa.Pure
