/- choose.where under Select's closure. -/
import Derived.Test.YtfnfmlcngleemaaPAllx0
import Derived.Handy
namespace Go.Proofs.Ytfnfmlcngleemaa.Tw
open Go Go.RowKit Go.Proofs.YtfnfmlcngleemaaW.PrintWords Go.Proofs.YtfnfmlcngleemaaW.PrintLast Go.Proofs.YtfnfmlcngleemaaW.PrintMore Go.Proofs.Ytfnfmlcngleemaa.PAll
set_option linter.unusedVariables false
set_option linter.unusedSimpArgs false

/-- is the offset within? -/
def inn (lo hi : Int) (x : S32) : Bool := decide (lo ≤ x.f1) && decide (x.f1 ≤ hi)
/-- the first k's positions that are taken -/
def sel (lo hi : Int) (l : List S32) : Nat → List Int
  | 0 => []
  | k + 1 => if inn lo hi (rd_T32 l (k : Int)) = true then sel lo hi l k ++ [(k : Int)] else sel lo hi l k
theorem sel_length (lo hi : Int) (l : List S32) : ∀ k, (sel lo hi l k).length ≤ k
  | 0 => Nat.le_refl _
  | k + 1 => by
    have ih := sel_length lo hi l k
    simp only [sel]
    split
    · rw [List.length_append, List.length_singleton]; omega
    · omega
theorem info3 : (Try.prog.info? 3).map (fun i => (i.zero, i.size, i.bytes)) = some (some (.int .i64 0), 1, 8) := by kernel_rfl

set_option maxHeartbeats 1000000 in
theorem closure11 (b : Nat) (lo hi : Int) (x : S32) (W : World) (hb : W.heap[b]? = some (.cells #[.int .i64 lo, .int .i64 hi] 25 (0, 0))) :
    Calls Try.prog 11 #[.agg #[.int .i64 x.f0, .int .i64 x.f1, .int .i64 x.f2, .int .i64 x.f3, .int .i64 x.f4], .pointer (some ⟨b, 0, none⟩)] W fun e w' => e = .returned (.bool (inn lo hi x)) ∧ Below W.heap.size W w' := by
  have R1 := blk_new W (.cells #[.int .i64 x.f0, .int .i64 x.f1, .int .i64 x.f2, .int .i64 x.f3, .int .i64 x.f4] 32)
  have R2 := blk_alloc hb (.cells #[.int .i64 x.f0, .int .i64 x.f1, .int .i64 x.f2, .int .i64 x.f3, .int .i64 x.f4] 32)
  have HB := below_alloc (Below.refl W.heap.size W) (.cells #[.int .i64 x.f0, .int .i64 x.f1, .int .i64 x.f2, .int .i64 x.f3, .int .i64 x.f4] 32)
  obtain ⟨c0, c1, c2, c3, c4⟩ := cs5 R1
  obtain ⟨d0, d1⟩ := cs2 R2
  obtain ⟨r, hr⟩ : ∃ r, inn lo hi x = r := ⟨_, rfl⟩
  rw [hr]
  unfold inn at hr
  replace HB := Aside0.mk HB
  clear hb R1 R2
  by_cases h1 : lo ≤ x.f1
  · have e1 : decide (lo ≤ x.f1) = true := decide_eq_true h1
    have e1' : decide (x.f1 ≥ lo) = true := e1
    rw [e1, Bool.true_and] at hr
    replace hr := Aside0.mk hr
    clear h1
    go_enter Try.func11, Try.ntmps11
    go_wp2
    go_ret
    exact ⟨by rw [← hr.out]; rfl, HB.out⟩
  · have e1 : decide (lo ≤ x.f1) = false := decide_eq_false h1
    have e1' : decide (x.f1 ≥ lo) = false := e1
    rw [e1, Bool.false_and] at hr
    replace hr := Aside0.mk hr
    clear h1
    go_enter Try.func11, Try.ntmps11
    go_wp2
    go_ret
    exact ⟨by rw [← hr.out]; rfl, HB.out⟩

set_option maxHeartbeats 4000000 in
theorem where_any (A0 : Option Addr) (c0 : Nat) (l : List S32) (w : World) (hr : Kd.C k32 w A0 l.length l) (g : Nat) (lo hi : Int) (hbox : w.heap[g]? = some (.cells #[.int .i64 lo, .int .i64 hi] 25 (0, 0))) (h100 : l.length ≤ 100) :
    Calls Try.prog 10 #[.slice A0 l.length c0, .func (.func 11) #[] #[.pointer (some ⟨g, 0, none⟩)]] w fun e w' => ∃ v, e = .returned v ∧ Kd.R (Kd.int .i64) 3 w' w.heap.size (fun _ => True) v (sel lo hi l l.length) ∧ Below w.heap.size w w' := by
  replace hr := Aside0.mk hr
  replace hbox := Aside0.mk hbox
  go_enter Try.func10, Try.ntmps10
  go_wp2
  go_loopw [5, 6, 7, 10] (fun out i6 p7 i wr => ∃ x : Nat, x ≤ l.length ∧ i = .int .i64 x ∧ Aside0 (Kd.R (Kd.int .i64) 3 wr w.heap.size (fun _ => True) out (sel lo hi l x)) ∧ Aside0 (Below w.heap.size w wr)) (fun _ _ _ i _ => l.length - (intOf i).toNat)
  · exact ⟨0, by omega, rfl, ⟨Kd.R_nil _ _ _ _ _⟩, ⟨Below.refl _ _⟩⟩
  · obtain ⟨x, hx, rfl, HO, HB⟩ := hrel
    by_cases hlt : x < l.length
    · have hlt' : (x : Int) < (l.length : Int) := by omega
      obtain ⟨ad, e1, s0, s1, s2, s3, s4⟩ := at_T32 hr.out (x : Int) (by omega) hlt'
      cases e1
      rw [show ((x : Int)).toNat = x by omega] at s0 s1 s2 s3 s4
      replace s0 := (HB.out.cell (World.block_lt_of_cell? w _ s0)).trans s0
      replace s1 := (HB.out.cell (World.block_lt_of_cell? w _ s1)).trans s1
      replace s2 := (HB.out.cell (World.block_lt_of_cell? w _ s2)).trans s2
      replace s3 := (HB.out.cell (World.block_lt_of_cell? w _ s3)).trans s3
      replace s4 := (HB.out.cell (World.block_lt_of_cell? w _ s4)).trans s4
      have hsel : sel lo hi l (x + 1) = if inn lo hi (rd_T32 l (x : Int)) = true then sel lo hi l x ++ [(x : Int)] else sel lo hi l x := rfl
      generalize rd_T32 l (x : Int) = p at *
      have hbx := blk_below hbox.out HB.out
      have hR1 := Kd.R_alloc HO.out (.cells #[.int .i64 p.f0, .int .i64 p.f1, .int .i64 p.f2, .int .i64 p.f3, .int .i64 p.f4] 32)
      have hB1 := below_alloc HB.out (.cells #[.int .i64 p.f0, .int .i64 p.f1, .int .i64 p.f2, .int .i64 p.f3, .int .i64 p.f4] 32)
      have hcl := closure11 g lo hi p (wr.alloc (.cells #[.int .i64 p.f0, .int .i64 p.f1, .int .i64 p.f2, .int .i64 p.f3, .int .i64 p.f4] 32)) (blk_alloc hbx _)
      obtain ⟨q0, q1, q2, q3, q4⟩ := cs5 (blk_new wr (.cells #[.int .i64 p.f0, .int .i64 p.f1, .int .i64 p.f2, .int .i64 p.f3, .int .i64 p.f4] 32))
      have eg : ∀ args w, (callFunc 11 args).run Try.prog w = .ok (.enter 11 args) w := enters_of Try.func11 (by kernel_rfl) rfl
      have hslen := sel_length lo hi l x
      replace hR1 := Aside0.mk hR1
      replace hB1 := Aside0.mk hB1
      replace hslen := Aside0.mk hslen
      obtain ⟨b, hb⟩ : ∃ b, inn lo hi p = b := ⟨_, rfl⟩
      rw [hb] at hcl hsel
      replace hcl := Aside0.mk hcl
      replace hsel := Aside0.mk hsel
      clear hb hbx
      cases b with
      | true =>
        go_wp2_with (first
          | (go_at_fn 11
             refine hcl.out.mono ?_
             rintro e w2 ⟨rfl, hb2⟩
             have hR2 := Aside0.mk (Kd.R_below hR1.out hb2)
             have hB2 := Aside0.mk (below_step hB1.out hb2)
             clear hb2)
          | ((with_reducible refine gate_builtin (b := .append) (xs := #[.tmp 18, .tmp 20]) rfl ?_); at_builtin; refine Kd.R_append (Kd.int .i64) (w0 := w) w.heap.size rfl (.tmp 18) (.tmp 20) 23 3 (.int .i64 0) 8 rfl Try.underlying23 info3 rfl (by decide) (by omega) _ (sel lo hi l x) (x : Int) [.int .i64 x] (fun _ => True) (fun _ => False) rfl rfl ?aP (fun _ hk => hk.elim) (fun _ _ => trivial) hR2.out hB2.out hB2.out.size ?aL ?_
             case aP => rfl
             case aL => have := hslen.out; omega
             intro v1 w3 ho hb hg hat
             replace ho := Aside0.mk ho
             replace hb := Aside0.mk hb))
        go_roundw
        case rel => exact ⟨x + 1, by omega, by go_num, ⟨by rw [hsel.out]; first | (rw [if_pos rfl]; exact ho.out) | (rw [if_pos trivial]; exact ho.out)⟩, hb⟩
        case measure => simp [intOf]; omega
      | false =>
        go_wp2_with (first
          | (go_at_fn 11
             refine hcl.out.mono ?_
             rintro e w2 ⟨rfl, hb2⟩
             have hR2 := Aside0.mk (Kd.R_below hR1.out hb2)
             have hB2 := Aside0.mk (below_step hB1.out hb2)
             clear hb2))
        go_roundw
        case rel => exact ⟨x + 1, by omega, by go_num, ⟨by rw [hsel.out]; first | (rw [if_neg (by decide)]; exact hR2.out) | (rw [if_neg not_false]; exact hR2.out)⟩, hB2⟩
        case measure => simp [intOf]; omega
    · obtain rfl : x = l.length := by omega
      go_wp2
      go_ret
      exact ⟨_, rfl, HO.out, HB.out⟩
end Go.Proofs.Ytfnfmlcngleemaa.Tw
