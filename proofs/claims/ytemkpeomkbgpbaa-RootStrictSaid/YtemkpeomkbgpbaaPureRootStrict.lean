/- The law RootStrict: Better is a strict order that decides between every two valid roots which differ; and the chapter's examples hold. No condition. -/
import Derived.Test.YtemkpeomkbgpbaaRootOrder
import Derived.Test.YtemkpeomkbgpbaaPAllx34
namespace Go.Proofs.Ytemkpeomkbgpbaa.Pure
open Go Go.RowKit Go.Proofs.Ytemkpeomkbgpbaa.PAll Go.Proofs.Ytemkpeomkbgpbaa.Num Go.Proofs.YtemkpeomkbgpbaaW.PrintWords Go.Proofs.YtemkpeomkbgpbaaW.PrintMore
set_option linter.unusedVariables false

theorem before_irrefl (s d p i : Int) : before s d p i s d p i = false := by
  unfold before
  exact decide_eq_false (fun z => by omega)
theorem before_asymm {s d p i s' d' p' i' : Int} (h : before s d p i s' d' p' i' = true) : before s' d' p' i' s d p i = false := by
  unfold before at *
  have h := of_decide_eq_true h
  exact decide_eq_false (fun z => by omega)
theorem before_trans {s d p i s' d' p' i' s2 d2 p2 i2 : Int} (h : before s d p i s' d' p' i' = true) (h' : before s' d' p' i' s2 d2 p2 i2 = true) : before s d p i s2 d2 p2 i2 = true := by
  unfold before at *
  have h := of_decide_eq_true h
  have h' := of_decide_eq_true h'
  exact decide_eq_true ⟨h.1, h'.2.1, by omega⟩
theorem before_total {s d p i s' d' p' i' : Int} (g : good s d p) (g' : good s' d' p') (hn : ¬ (s = s' ∧ dist s d p = dist s' d' p' ∧ i = i')) (h : before s d p i s' d' p' i' = false) : before s' d' p' i' s d p i = true := by
  unfold before at *
  have h := of_decide_eq_false h
  refine decide_eq_true ⟨g', g, ?_⟩
  have h : ¬ (s < s' ∨ s = s' ∧ (dist s d p < dist s' d' p' ∨ dist s d p = dist s' d' p' ∧ i < i')) := fun z => h ⟨g, g', z⟩
  omega

theorem RootStrict_pure (s d p i s' d' p' i' s2 d2 p2 i2 : Int) : timesynclaw29_RootStrict.f 200 s d p i s' d' p' i' s2 d2 p2 i2 = some true := by
  have B : ∀ k, 5 ≤ k → ∀ s d p i s' d' p' i', root_Better.f k s d p i s' d' p' i' = some (before s d p i s' d' p' i') := fun k hk s d p i s' d' p' i' => Better_tells s d p i s' d' p' i' k hk
  have irr := before_irrefl s d p i
  -- the last part
  have last : ∀ k, 100 ≤ k → timesynclaw29_RootStrict.j1 k false s d p i s' d' p' i' = some true := by
    intro k hk
    obtain ⟨k, rfl⟩ : ∃ m, k = m + 4 := ⟨k - 4, by omega⟩
    have A := awake_tells (k + 1) (by omega)
    simp only [timesynclaw29_RootStrict.j1, timesynclaw29_RootStrict.j2, timesynclaw29_RootStrict.j3, timesynclaw29_RootStrict.j4, Check_tells, Distance_tells, Option.bind_some, B (k + 1) (by omega), A]
    by_cases g : good s d p
    · by_cases g' : good s' d' p'
      · by_cases e1 : s = s'
        · subst e1
          by_cases e2 : dist s d p = dist s d' p'
          · by_cases e3 : i = i'
            · simp [g, g', e2, e3]
            · cases hb : before s d p i s d' p' i' with
              | true => simp [g, g', e2, e3]
              | false => simp [g, g', e2, e3, before_total g g' (fun z => e3 z.2.2) hb]
          · cases hb : before s d p i s d' p' i' with
            | true => simp [g, g', e2]
            | false => simp [g, g', e2, before_total g g' (fun z => e2 z.2.1) hb]
        · cases hb : before s d p i s' d' p' i' with
          | true => simp [g, g', e1]
          | false => simp [g, g', e1, before_total g g' (fun z => e1 z.1) hb]
      · by_cases e1 : s = s'
        · subst e1
          by_cases e2 : dist s d p = dist s d' p' <;> simp [g, g', e2]
        · simp [g, g', e1]
    · by_cases e1 : s = s'
      · subst e1
        by_cases e2 : dist s d p = dist s d' p' <;> simp [g, e2]
      · simp [g, e1]
  have mid : timesynclaw29_RootStrict.j0 200 false s d p i s' d' p' i' s2 d2 p2 i2 = some true := by
    simp only [timesynclaw29_RootStrict.j0, B 199 (by omega), Option.bind_some]
    cases h1 : before s d p i s' d' p' i' with
    | false => simpa using last 199 (by omega)
    | true =>
      cases h2 : before s' d' p' i' s2 d2 p2 i2 with
      | false => simpa using last 199 (by omega)
      | true => simpa [before_trans h1 h2] using last 199 (by omega)
  unfold timesynclaw29_RootStrict.f
  simp only [B 200 (by omega), Option.bind_some, irr]
  cases h1 : before s d p i s' d' p' i' with
  | false => simpa using mid
  | true => simpa [before_asymm h1] using mid

theorem RootStrict_walk (a0_0 a0_1 a0_2 a0_3 a1_0 a1_1 a1_2 a1_3 a2_0 a2_1 a2_2 a2_3 : Int) (w : World) (w0_0 : (Lit.int .i64 a0_0).wf = true) (w0_1 : (Lit.int .i64 a0_1).wf = true) (w0_2 : (Lit.int .i64 a0_2).wf = true) (w0_3 : (Lit.int .u32 a0_3).wf = true) (w1_0 : (Lit.int .i64 a1_0).wf = true) (w1_1 : (Lit.int .i64 a1_1).wf = true) (w1_2 : (Lit.int .i64 a1_2).wf = true) (w1_3 : (Lit.int .u32 a1_3).wf = true) (w2_0 : (Lit.int .i64 a2_0).wf = true) (w2_1 : (Lit.int .i64 a2_1).wf = true) (w2_2 : (Lit.int .i64 a2_2).wf = true) (w2_3 : (Lit.int .u32 a2_3).wf = true) :
    Calls Try.prog 5 #[.agg #[.int .i64 a0_0, .int .i64 a0_1, .int .i64 a0_2, .int .u32 a0_3], .agg #[.int .i64 a1_0, .int .i64 a1_1, .int .i64 a1_2, .int .u32 a1_3], .agg #[.int .i64 a2_0, .int .i64 a2_1, .int .i64 a2_2, .int .u32 a2_3]] w fun e w' => e = .returned (.bool true) ∧ Below w.heap.size w w' :=
  timesynclaw29_RootStrict.calls 200 a0_0 a0_1 a0_2 a0_3 a1_0 a1_1 a1_2 a1_3 a2_0 a2_1 a2_2 a2_3 true w (RootStrict_pure _ _ _ _ _ _ _ _ _ _ _ _)

end Go.Proofs.Ytemkpeomkbgpbaa.Pure
