/- interval.Hull: IndexFunc under its closure, Reverse. -/
import Derived.Test.YtfnfmlcngleemaaPAllx25
import Derived.Test.YtfnfmlcngleemaaPAllx27
import Derived.Handy
import Derived.Shelf.SlicesQ.IndexFunc
namespace Go.Proofs.Ytfnfmlcngleemaa.Th
open Go Go.RowKit Go.Proofs.YtfnfmlcngleemaaW.PrintWords Go.Proofs.YtfnfmlcngleemaaW.PrintLast Go.Proofs.YtfnfmlcngleemaaW.PrintMore Go.Proofs.Ytfnfmlcngleemaa.PAll
set_option linter.unusedVariables false
set_option linter.unusedSimpArgs false

def enc3 (x : S44) : List Value := [.int .i64 x.f0, .int .i64 x.f1, .int .i64 x.f2]
instance : Inhabited S44 := ⟨z44⟩
/-- where the first run with enough lies, or -1 -/
def idx (need : Int) (l : List S44) : Int := Lib.idxBy (fun _ (y : S44) => decide (need ≤ y.f2)) l default

set_option maxHeartbeats 1000000 in
theorem closure14 (b : Nat) (need : Int) (x : S44) (W : World) (hn : W.cell? ⟨b, 0, none⟩ = some (.int .i64 need)) :
    Calls Try.prog 14 #[.agg #[.int .i64 x.f0, .int .i64 x.f1, .int .i64 x.f2], .pointer (some ⟨b, 0, none⟩)] W fun e w' => e = .returned (.bool (decide (need ≤ x.f2))) ∧ Below W.heap.size W w' := by
  have R1 := blk_new W (.cells #[.int .i64 x.f0, .int .i64 x.f1, .int .i64 x.f2] 44)
  have hn2 : (W.alloc (.cells #[.int .i64 x.f0, .int .i64 x.f1, .int .i64 x.f2] 44)).cell? ⟨b, 0, none⟩ = some (.int .i64 need) := Lib.cell?_alloc_some _ hn
  have HB := below_alloc (Below.refl W.heap.size W) (.cells #[.int .i64 x.f0, .int .i64 x.f1, .int .i64 x.f2] 44)
  obtain ⟨c0, c1, c2⟩ := cs3 R1
  replace HB := Aside0.mk HB
  clear hn R1
  go_enter Try.func14, Try.ntmps14
  go_wp2
  go_ret
  exact ⟨rfl, HB.out⟩

theorem pred_any (b : Nat) (need : Int) (w : World) (hn : w.cell? ⟨b, 0, none⟩ = some (.int .i64 need)) :
    PredBelow Try.prog 14 #[.pointer (some ⟨b, 0, none⟩)] (fun x => .agg (enc3 x).toArray) (fun y : S44 => decide (need ≤ y.f2)) w := by
  intro W x hb
  have h2 : W.cell? ⟨b, 0, none⟩ = some (.int .i64 need) := (hb.cell (World.block_lt_of_cell? w _ hn)).trans hn
  refine (closure14 b need x W h2).mono ?_
  rintro e w' ⟨rfl, h3⟩
  exact ⟨rfl, hb.trans (h3.mono hb.size)⟩

set_option maxHeartbeats 2000000 in
theorem index_nil (b : Nat) (need : Int) (w : World) :
    Calls Try.prog 15 #[.slice none 0 0, .func (.func 14) #[] #[.pointer (some ⟨b, 0, none⟩)]] w fun e w' => e = .returned (.int .i64 (-1)) ∧ w' = w := by
  go_enter Try.func15, Try.ntmps15
  go_wp2
  go_loopw [5, 8] (fun s5 i wr => i = .int .i64 0 ∧ wr = w) (fun _ _ _ => 0)
  · exact ⟨rfl, rfl⟩
  · obtain ⟨rfl, rfl⟩ := hrel
    go_wp2
    go_ret
    exact ⟨rfl, rfl⟩

theorem index_any (b : Nat) (need : Int) (base : Nat) (ok : Nat → Prop) (v : Value) (l : List S44) (w : World) (HR : Kd.R k44 44 w base ok v l) (hn : w.cell? ⟨b, 0, none⟩ = some (.int .i64 need)) :
    Calls Try.prog 15 #[v, .func (.func 14) #[] #[.pointer (some ⟨b, 0, none⟩)]] w fun e w' => e = .returned (.int .i64 (idx need l)) ∧ Below w.heap.size w w' := by
  obtain ⟨inner, ho⟩ := Kd.R_own HR
  rcases ho.2 with ⟨rfl, hn0⟩ | ⟨g, cap, cur, rfl, hg, hh, hcap, hmax, hsz, htake⟩
  · obtain rfl := List.eq_nil_of_length_eq_zero hn0
    refine (index_nil b need w).mono ?_
    rintro e w' ⟨rfl, rfl⟩
    exact ⟨rfl, Below.refl _ _⟩
  · have hC := (Kd.R_reads' HR).2.2
    have hlt : g < w.heap.size := blk_lt hh
    have eg : ∀ args w, (callFunc 14 args).run Try.prog w = .ok (.enter 14 args) w := enters_of Try.func14 (by kernel_rfl) rfl
    have hbig : l.length ≤ 9223372036854775807 := by simp only [maxLen] at hmax; omega
    have hcon := AnyQ.slices_IndexFunc Try.indexRun 3 Try.isAgg44 Try.sizeOf44 enc3 (fun _ => rfl) (fun y : S44 => decide (need ≤ y.f2)) 14 #[.pointer (some ⟨b, 0, none⟩)] eg g 0 l.length cap l w (pred_any b need w hn) (Nat.le_refl _) hbig hlt (by
      intro j hj i v hv
      obtain ⟨ad, e, hcell⟩ := hC.2.2 (by omega)
      injection e with e
      subst e
      have hx : l[j]? = some l[j]! := by rw [getElem!_pos l j hj]; exact List.getElem?_eq_getElem hj
      obtain ⟨cs, _, hK, hc⟩ := hcell j _ hx
      have := k44_open hK
      subst this
      have h2 : w.cell? ((⟨g, 0, none⟩ : Addr).add (j * 3 + i)) = some v := hc i v hv
      rw [Addr.add_lit] at h2
      rwa [show 0 + (j * 3 + i) = 0 + j * 3 + i by omega] at h2)
    change Calls Try.prog 15 _ _ _ at hcon
    rw [List.take_length] at hcon
    exact hcon

theorem idx_lt (need : Int) (l : List S44) (h : 0 ≤ idx need l) : idx need l < (l.length : Int) := by
  have g : ∀ (l : List S44) (i : Nat), Lib.idxByFrom (fun _ (y : S44) => decide (need ≤ y.f2)) default l i = -1 ∨ Lib.idxByFrom (fun _ (y : S44) => decide (need ≤ y.f2)) default l i < (i : Int) + (l.length : Int) := by
    intro l
    induction l with
    | nil => intro i; left; rfl
    | cons y r ih =>
      intro i
      simp only [Lib.idxByFrom]
      split
      · right; rw [List.length_cons]; omega
      · rcases ih (i + 1) with h | h
        · exact Or.inl h
        · right; rw [List.length_cons]; omega
  unfold idx Lib.idxBy at *
  rcases g l 0 with h2 | h2 <;> omega
end Go.Proofs.Ytfnfmlcngleemaa.Th
