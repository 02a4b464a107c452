-- made by wip/tools/myprint.py out of the seat's translation
import Derived.Test.YtnjdepmlpdjghaaPFnFinalsx0
import Derived.Test.YtnjdepmlpdjghaaPFnFinalsx1
import Derived.Test.YtnjdepmlpdjghaaPFnFinalsx2
namespace Go.Proofs.Ytnjdepmlpdjghaa.PFnFinals
open Go.RowKit Go.Proofs.YtnjdepmlpdjghaaW.PrintWords Go.Proofs.YtnjdepmlpdjghaaW.PrintLast Go.Proofs.YtnjdepmlpdjghaaW.PrintMore
attribute [local go_sem] max2_int min2_int max_two min_two max_three min_three max_four min_four   -- for this text's walks alone
set_option linter.unusedVariables false
set_option linter.unusedSimpArgs false
set_option maxHeartbeats 8000000
set_option maxRecDepth 100000

attribute [local go_sem high] eqA59
/-! ### impl_InsOk: function 91 -/
def placeOff (c : Int) : Nat := if c = 82 then 1 else if c = 65 then 2 else if c = 66 then 3 else 4
theorem place_calls (g : Nat) (c : Int) (w : World) :
    Calls Try.prog 117 #[.pointer (some ⟨g, 0, none⟩), .int .u8 c] w fun e w' => e = .returned (.pointer (some ⟨g, placeOff c, none⟩)) ∧ w' = w := by
  by_cases c1 : c = 82
  · have e1 : (c == 82) = true := beq_iff_eq.mpr c1
    have ho : placeOff c = 1 := by simp [placeOff, c1]
    have Ho := zM ho
    clear c1 ho
    go_enter Try.func117, Try.ntmps117
    go_wp2
    go_ret
    exact ⟨congrArg (fun o => Ending.returned (Value.pointer (some ⟨g, o, none⟩))) Ho.out.symm, rfl⟩
  have e1 : (c == 82) = false := beq_eq_false_iff_ne.mpr c1
  by_cases c2 : c = 65
  · have e2 : (c == 65) = true := beq_iff_eq.mpr c2
    have ho : placeOff c = 2 := by simp [placeOff, c2]
    have Ho := zM ho
    clear c1 c2 ho
    go_enter Try.func117, Try.ntmps117
    go_wp2
    go_ret
    exact ⟨congrArg (fun o => Ending.returned (Value.pointer (some ⟨g, o, none⟩))) Ho.out.symm, rfl⟩
  have e2 : (c == 65) = false := beq_eq_false_iff_ne.mpr c2
  by_cases c3 : c = 66
  · have e3 : (c == 66) = true := beq_iff_eq.mpr c3
    have ho : placeOff c = 3 := by simp [placeOff, c3]
    have Ho := zM ho
    clear c1 c2 c3 ho
    go_enter Try.func117, Try.ntmps117
    go_wp2
    go_ret
    exact ⟨congrArg (fun o => Ending.returned (Value.pointer (some ⟨g, o, none⟩))) Ho.out.symm, rfl⟩
  have e3 : (c == 66) = false := beq_eq_false_iff_ne.mpr c3
  have ho : placeOff c = 4 := by simp [placeOff, c1, c2, c3]
  have Ho := zM ho
  clear c1 c2 c3 ho
  go_enter Try.func117, Try.ntmps117
  go_wp2
  go_ret
  exact ⟨congrArg (fun o => Ending.returned (Value.pointer (some ⟨g, o, none⟩))) Ho.out.symm, rfl⟩

/-- The five numbers, one of them put. -/
def insPut (c : Int) (x s : Int × Int × Int × Int × Int) : Int × Int × Int × Int × Int :=
  if c = 82 then (s.1, x.2.1, s.2.2.1, s.2.2.2.1, s.2.2.2.2) else if c = 65 then (s.1, s.2.1, x.2.2.1, s.2.2.2.1, s.2.2.2.2) else if c = 66 then (s.1, s.2.1, s.2.2.1, x.2.2.2.1, s.2.2.2.2) else (s.1, s.2.1, s.2.2.1, s.2.2.2.1, x.2.2.2.2)
def insCells (s : Int × Int × Int × Int × Int) : Array Value := #[.int .i64 s.1, .int .i64 s.2.1, .int .i64 s.2.2.1, .int .i64 s.2.2.2.1, .int .i64 s.2.2.2.2]
def insPick (x : Int × Int × Int × Int × Int) (c : Int) : Int := if c = 82 then x.2.1 else if c = 65 then x.2.2.1 else if c = 66 then x.2.2.2.1 else x.2.2.2.2
theorem insCells_get (x : Int × Int × Int × Int × Int) (c : Int) : (insCells x)[placeOff c]? = some (.int .i64 (insPick x c)) := by
  unfold insCells placeOff insPick; split <;> (try split) <;> (try split) <;> rfl
theorem insCells_put (x s : Int × Int × Int × Int × Int) (c : Int) : (insCells s).setIfInBounds (placeOff c) (.int .i64 (insPick x c)) = insCells (insPut c x s) := by
  unfold insCells placeOff insPick insPut; split <;> (try split) <;> (try split) <;> rfl
def insFold (s : ByteArray) (x : Int × Int × Int × Int × Int) (n : Nat) : Int × Int × Int × Int × Int := (List.range n).foldl (fun a (i : Nat) => insPut (bt s (i : Int)) x a) (x.1, 0, 0, 0, 0)

theorem insFold_succ (s : ByteArray) (x : Int × Int × Int × Int × Int) (n : Nat) : insFold s x (n + 1) = insPut (bt s (n : Int)) x (insFold s x n) := by
  unfold insFold; rw [List.range_succ, List.foldl_append]; rfl
theorem insOk_calls (k : Nat) (x0 x1 x2 x3 x4 : Int) (s : ByteArray) (ok : Bool) (w : World) (hs : s.size ≤ 4) (hf : impl_form.f k x0 = some (s, ok)) (y0 y1 y2 y3 y4 : Int) (hy : insFold s (x0, x1, x2, x3, x4) s.size = (y0, y1, y2, y3, y4)) (b1 b2 b3 b4 : Bool) (h1 : impl_from.f x1 0 3 = some b1) (h2 : impl_from.f x2 0 3 = some b2) (h3 : impl_from.f x3 0 3 = some b3) (h4 : impl_from.f x4 0 63 = some b4) :
    Calls Try.prog 91 #[.agg #[.int .i64 x0, .int .i64 x1, .int .i64 x2, .int .i64 x3, .int .i64 x4]] w fun e w' => e = .returned (.bool (ok && ((y0 == x0 && (y1 == x1 && (y2 == x2 && (y3 == x3 && (y4 == x4))))) && (b1 && (b2 && (b3 && b4)))))) ∧ Below w.heap.size w w' := by
  have hu59 := Try.underlying58
  have HF := zM hf
  have HY := zM hy
  have F1 := zM h1
  have F2 := zM h2
  have F3 := zM h3
  have F4 := zM h4
  clear hf hy h1 h2 h3 h4
  have HB := zM (Below.refl w.heap.size w)
  go_enter Try.func91, Try.ntmps91
  go_wp2_with (first
    | ((with_reducible refine zBx 1 59 #[.int .i64 x0, .int .i64 x1, .int .i64 x2, .int .i64 x3, .int .i64 x4] ?_); intro g1 hg w1 hbox hb; have BK1 := zM hbox; have HB1 := zM (below_step HB.1 hb); have GE1 := zM (by rw [hg]; exact Nat.le_refl _ : w.heap.size ≤ g1); clear hb hbox hg; have hcz0 : w1.cell? ⟨g1, 0, none⟩ = some (.int .i64 x0) := (blk_cell BK1.1 0).trans rfl)
    | ((with_reducible refine zBx 5 59 #[.int .i64 0, .int .i64 0, .int .i64 0, .int .i64 0, .int .i64 0] ?_); intro g2 hg w2 hbox hb; have hne := zM (by rw [hg]; exact Nat.ne_of_lt (blk_lt (blk_drewN BK1.1 _)) : g1 ≠ g2); have BK2 := zM hbox; have HB2 := zM (below_step zB3 hb); have BK1' := zM (blk_below (zJ BK1.1) hb); have GE2 := zM (by rw [hg]; exact below_size zB3 : w.heap.size ≤ g2); clear hb hbox hg BK1 HB1 HB; have hcy0 := (blk_cell BK2.1 0).trans rfl; have hcy1 := (blk_cell BK2.1 1).trans rfl; have hcy2 := (blk_cell BK2.1 2).trans rfl; have hcy3 := (blk_cell BK2.1 3).trans rfl; have hcy4 := (blk_cell BK2.1 4).trans rfl; have hfy0 := blk_frozen BK2.1 0; have hfy1 := blk_frozen BK2.1 1; have hfy2 := blk_frozen BK2.1 2; have hfy3 := blk_frozen BK2.1 3; have hfy4 := blk_frozen BK2.1 4)
    | (go_at_call 116; refine (impl_form.calls k x0 s ok _ HF.out).mono ?_; rintro e w' ⟨rfl, ⟨nd, rfl⟩⟩))
  clear hcz0 hcy0 hcy1 hcy2 hcy3 hcy4 hfy0 hfy1 hfy2 hfy3 hfy4
  go_loopw [18] (fun v wr => ∃ i : Nat, Aside0 (i ≤ s.size) ∧ v = .int .i64 i ∧ Aside0 (wr.heap[g1]? = some (.cells (insCells (x0, x1, x2, x3, x4)) 59 (0, 0))) ∧ Aside0 (wr.heap[g2]? = some (.cells (insCells (insFold s (x0, x1, x2, x3, x4) i)) 59 (0, 0))) ∧ Aside0 (Below w.heap.size w wr)) (fun v _ => s.size - (intOf v).toNat)
  case atStart =>
    refine ⟨0, ⟨Nat.zero_le _⟩, rfl, ⟨?_⟩, ⟨?_⟩, ⟨?_⟩⟩
    · refine blk_far (blk_far (blk_far (blk_far (blk_far BK1'.out ?_ _) ?_ _) ?_ _) ?_ _) ?_ _ <;> exact hne.out
    · exact blk_set (blk_set (blk_set (blk_set (blk_set BK2.1 0 _) 1 _) 2 _) 3 _) 4 _
    · exact below_set (below_set (below_set (below_set (below_set HB2.1 GE2.1) GE2.1) GE2.1) GE2.1) GE2.1
  case round =>
    obtain ⟨i, hi, rfl, BK1, BK2, HB⟩ := hrel
    by_cases hlt : i < s.size
    · have hbt : bt s (i : Int) = ((s[i].toNat : Nat) : Int) := (bt_at s (i : Int) (by simpa using hlt)).symm
      have HBT := zM hbt
      clear hbt
      have hld : wr.cell? ⟨g1, placeOff ((s[i].toNat : Nat) : Int), none⟩ = some (.int .i64 (insPick (x0, x1, x2, x3, x4) ((s[i].toNat : Nat) : Int))) := (blk_cell BK1.1 _).trans (insCells_get _ _)
      have hst : wr.cell? ⟨g2, placeOff ((s[i].toNat : Nat) : Int), none⟩ = some (.int .i64 (insPick (insFold s (x0, x1, x2, x3, x4) i) ((s[i].toNat : Nat) : Int))) := (blk_cell BK2.1 _).trans (insCells_get _ _)
      have hfz := blk_frozen BK2.1 (placeOff ((s[i].toNat : Nat) : Int))
      have H1 := zM hst
      have H2 := zM hfz
      clear hst hfz
      go_wp2_with fail
      go_still_tail 11, (by kernel_rfl)
      still_call (place_calls _ _ _)
      repeat still_step
      still_call (place_calls _ _ _)
      repeat still_step
      refine wpStill_nil ?_
      change wpList _ _ _ _ _ wr.drew
      have hst := H1.out
      have hfz := H2.out
      go_wp2
      go_roundw
      case rel =>
        refine ⟨i + 1, ⟨hlt⟩, by go_num, ⟨?_⟩, ⟨?_⟩, ⟨?_⟩⟩
        · exact blk_far (blk_drew BK1.1) hne.out _
        · rw [insFold_succ, HBT.out, ← insCells_put]; exact blk_set (blk_drew BK2.1) _ _
        · exact below_set (below_drew1 HB.1) GE2.1
      case measure => simp [intOf]; omega
    have HN := zM hlt
    have hi' : i = s.size := by have := hi.out; omega
    subst hi'
    have BK2' : wr.heap[g2]? = some (.cells #[.int .i64 y0, .int .i64 y1, .int .i64 y2, .int .i64 y3, .int .i64 y4] 59 (0, 0)) := by have h_ := BK2.1; rw [HY.out] at h_; exact h_
    clear BK2
    have hcx0 : wr.cell? ⟨g1, 0, none⟩ = some (.int .i64 x0) := (blk_cell BK1.1 0).trans rfl
    have hcx1 : wr.cell? ⟨g1, 1, none⟩ = some (.int .i64 x1) := (blk_cell BK1.1 1).trans rfl
    have hcx2 : wr.cell? ⟨g1, 2, none⟩ = some (.int .i64 x2) := (blk_cell BK1.1 2).trans rfl
    have hcx3 : wr.cell? ⟨g1, 3, none⟩ = some (.int .i64 x3) := (blk_cell BK1.1 3).trans rfl
    have hcx4 : wr.cell? ⟨g1, 4, none⟩ = some (.int .i64 x4) := (blk_cell BK1.1 4).trans rfl
    have hcy0 : wr.cell? ⟨g2, 0, none⟩ = some (.int .i64 y0) := (blk_cell BK2' 0).trans rfl
    have hcy1 : wr.cell? ⟨g2, 1, none⟩ = some (.int .i64 y1) := (blk_cell BK2' 1).trans rfl
    have hcy2 : wr.cell? ⟨g2, 2, none⟩ = some (.int .i64 y2) := (blk_cell BK2' 2).trans rfl
    have hcy3 : wr.cell? ⟨g2, 3, none⟩ = some (.int .i64 y3) := (blk_cell BK2' 3).trans rfl
    have hcy4 : wr.cell? ⟨g2, 4, none⟩ = some (.int .i64 y4) := (blk_cell BK2' 4).trans rfl
    clear BK1 BK2'
    cases ok
    · go_wp2_with (first | (go_at_call 43; with_reducible refine (impl_from.calls x1 0 3 _ _ F1.out).mono ?_; rintro e w' ⟨rfl, ⟨nd, rfl⟩⟩) | (go_at_call 43; with_reducible refine (impl_from.calls x2 0 3 _ _ F2.out).mono ?_; rintro e w' ⟨rfl, ⟨nd, rfl⟩⟩) | (go_at_call 43; with_reducible refine (impl_from.calls x3 0 3 _ _ F3.out).mono ?_; rintro e w' ⟨rfl, ⟨nd, rfl⟩⟩) | (go_at_call 43; with_reducible refine (impl_from.calls x4 0 63 _ _ F4.out).mono ?_; rintro e w' ⟨rfl, ⟨nd, rfl⟩⟩))
      go_ret
      exact ⟨rfl, by repeat (first | exact HB.1 | apply pw_below_drewN | apply below_drew1)⟩
    generalize hE : (y0 == x0 && (y1 == x1 && (y2 == x2 && (y3 == x3 && (y4 == x4))))) = E
    cases E
    · go_wp2_with (first | (go_at_call 43; with_reducible refine (impl_from.calls x1 0 3 _ _ F1.out).mono ?_; rintro e w' ⟨rfl, ⟨nd, rfl⟩⟩) | (go_at_call 43; with_reducible refine (impl_from.calls x2 0 3 _ _ F2.out).mono ?_; rintro e w' ⟨rfl, ⟨nd, rfl⟩⟩) | (go_at_call 43; with_reducible refine (impl_from.calls x3 0 3 _ _ F3.out).mono ?_; rintro e w' ⟨rfl, ⟨nd, rfl⟩⟩) | (go_at_call 43; with_reducible refine (impl_from.calls x4 0 63 _ _ F4.out).mono ?_; rintro e w' ⟨rfl, ⟨nd, rfl⟩⟩))
      go_ret
      exact ⟨by rw [hE]; rfl, by repeat (first | exact HB.1 | apply pw_below_drewN | apply below_drew1)⟩
    cases b1
    · go_wp2_with (first | (go_at_call 43; with_reducible refine (impl_from.calls x1 0 3 _ _ F1.out).mono ?_; rintro e w' ⟨rfl, ⟨nd, rfl⟩⟩) | (go_at_call 43; with_reducible refine (impl_from.calls x2 0 3 _ _ F2.out).mono ?_; rintro e w' ⟨rfl, ⟨nd, rfl⟩⟩) | (go_at_call 43; with_reducible refine (impl_from.calls x3 0 3 _ _ F3.out).mono ?_; rintro e w' ⟨rfl, ⟨nd, rfl⟩⟩) | (go_at_call 43; with_reducible refine (impl_from.calls x4 0 63 _ _ F4.out).mono ?_; rintro e w' ⟨rfl, ⟨nd, rfl⟩⟩))
      go_ret
      exact ⟨by rw [hE]; rfl, by repeat (first | exact HB.1 | apply pw_below_drewN | apply below_drew1)⟩
    cases b2
    · go_wp2_with (first | (go_at_call 43; with_reducible refine (impl_from.calls x1 0 3 _ _ F1.out).mono ?_; rintro e w' ⟨rfl, ⟨nd, rfl⟩⟩) | (go_at_call 43; with_reducible refine (impl_from.calls x2 0 3 _ _ F2.out).mono ?_; rintro e w' ⟨rfl, ⟨nd, rfl⟩⟩) | (go_at_call 43; with_reducible refine (impl_from.calls x3 0 3 _ _ F3.out).mono ?_; rintro e w' ⟨rfl, ⟨nd, rfl⟩⟩) | (go_at_call 43; with_reducible refine (impl_from.calls x4 0 63 _ _ F4.out).mono ?_; rintro e w' ⟨rfl, ⟨nd, rfl⟩⟩))
      go_ret
      exact ⟨by rw [hE]; rfl, by repeat (first | exact HB.1 | apply pw_below_drewN | apply below_drew1)⟩
    cases b3
    · go_wp2_with (first | (go_at_call 43; with_reducible refine (impl_from.calls x1 0 3 _ _ F1.out).mono ?_; rintro e w' ⟨rfl, ⟨nd, rfl⟩⟩) | (go_at_call 43; with_reducible refine (impl_from.calls x2 0 3 _ _ F2.out).mono ?_; rintro e w' ⟨rfl, ⟨nd, rfl⟩⟩) | (go_at_call 43; with_reducible refine (impl_from.calls x3 0 3 _ _ F3.out).mono ?_; rintro e w' ⟨rfl, ⟨nd, rfl⟩⟩) | (go_at_call 43; with_reducible refine (impl_from.calls x4 0 63 _ _ F4.out).mono ?_; rintro e w' ⟨rfl, ⟨nd, rfl⟩⟩))
      go_ret
      exact ⟨by rw [hE]; rfl, by repeat (first | exact HB.1 | apply pw_below_drewN | apply below_drew1)⟩
    go_wp2_with (first | (go_at_call 43; with_reducible refine (impl_from.calls x1 0 3 _ _ F1.out).mono ?_; rintro e w' ⟨rfl, ⟨nd, rfl⟩⟩) | (go_at_call 43; with_reducible refine (impl_from.calls x2 0 3 _ _ F2.out).mono ?_; rintro e w' ⟨rfl, ⟨nd, rfl⟩⟩) | (go_at_call 43; with_reducible refine (impl_from.calls x3 0 3 _ _ F3.out).mono ?_; rintro e w' ⟨rfl, ⟨nd, rfl⟩⟩) | (go_at_call 43; with_reducible refine (impl_from.calls x4 0 63 _ _ F4.out).mono ?_; rintro e w' ⟨rfl, ⟨nd, rfl⟩⟩))
    go_ret
    exact ⟨by rw [hE]; rfl, by repeat (first | exact HB.1 | apply pw_below_drewN | apply below_drew1)⟩
/-- Is it an Ins: what an Op does not have is 0; the others in range. -/
def insOkB (o r a b n : Int) : Bool :=
  (if o = 1 then decide (a = 0) && decide (b = 0) else if o = 2 then decide (n = 0) else if o = 3 then decide (b = 0) else if o = 4 then decide (b = 0) else if o = 5 then decide (r = 0) else if o = 6 then true
   else if o = 7 then decide (r = 0) && decide (b = 0) else if o = 8 then decide (r = 0) && (decide (a = 0) && decide (b = 0)) else if o = 9 then decide (r = 0) && (decide (a = 0) && (decide (b = 0) && decide (n = 0))) else if o = 10 then decide (n = 0) else false)
  && (decide (0 ≤ r ∧ r ≤ 3) && (decide (0 ≤ a ∧ a ≤ 3) && (decide (0 ≤ b ∧ b ≤ 3) && decide (0 ≤ n ∧ n ≤ 63))))
def impl_InsOk.f (a0_0 a0_1 a0_2 a0_3 a0_4 : Int) : Option Bool := some (insOkB a0_0 a0_1 a0_2 a0_3 a0_4)
theorem insFrom (x lo hi : Int) : impl_from.f x lo hi = some (decide (lo ≤ x ∧ x ≤ hi)) := by
  unfold impl_from.f
  by_cases h : x ≥ lo
  · rw [if_pos h]; have h' : lo ≤ x := h; simp [h']
  rw [if_neg h]; have h' : ¬ lo ≤ x := h; simp [h']
theorem insBeq (x y : Int) : (x == y) = decide (y = x) := by
  by_cases h : x = y
  · subst h; simp
  have h' : ¬ y = x := fun e => h e.symm
  simp [h, h']
theorem insForm (x0 x1 x2 x3 x4 : Int) : ∃ (s : ByteArray) (ok : Bool) (y0 y1 y2 y3 y4 : Int), s.size ≤ 4 ∧ impl_form.f 3 x0 = some (s, ok) ∧ insFold s (x0, x1, x2, x3, x4) s.size = (y0, y1, y2, y3, y4) ∧
    (ok && ((y0 == x0 && (y1 == x1 && (y2 == x2 && (y3 == x3 && (y4 == x4))))) && (decide (0 ≤ x1 ∧ x1 ≤ 3) && (decide (0 ≤ x2 ∧ x2 ≤ 3) && (decide (0 ≤ x3 ∧ x3 ≤ 3) && decide (0 ≤ x4 ∧ x4 ≤ 63)))))) = insOkB x0 x1 x2 x3 x4 := by
  by_cases h1 : x0 = 1
  · subst h1; exact ⟨⟨#[82, 78]⟩, true, 1, x1, 0, 0, x4, by decide, rfl, rfl, by simp [insOkB, insBeq, Bool.and_assoc]⟩
  by_cases h2 : x0 = 2
  · subst h2; exact ⟨⟨#[82, 65, 66]⟩, true, 2, x1, x2, x3, 0, by decide, rfl, rfl, by simp [insOkB, insBeq, Bool.and_assoc]⟩
  by_cases h3 : x0 = 3
  · subst h3; exact ⟨⟨#[82, 65, 78]⟩, true, 3, x1, x2, 0, x4, by decide, rfl, rfl, by simp [insOkB, insBeq, Bool.and_assoc]⟩
  by_cases h4 : x0 = 4
  · subst h4; exact ⟨⟨#[82, 65, 78]⟩, true, 4, x1, x2, 0, x4, by decide, rfl, rfl, by simp [insOkB, insBeq, Bool.and_assoc]⟩
  by_cases h5 : x0 = 5
  · subst h5; exact ⟨⟨#[65, 66, 78]⟩, true, 5, 0, x2, x3, x4, by decide, rfl, rfl, by simp [insOkB, insBeq, Bool.and_assoc]⟩
  by_cases h6 : x0 = 6
  · subst h6; exact ⟨⟨#[82, 65, 66, 78]⟩, true, 6, x1, x2, x3, x4, by decide, rfl, rfl, by simp [insOkB, insBeq, Bool.and_assoc]⟩
  by_cases h7 : x0 = 7
  · subst h7; exact ⟨⟨#[65, 78]⟩, true, 7, 0, x2, 0, x4, by decide, rfl, rfl, by simp [insOkB, insBeq, Bool.and_assoc]⟩
  by_cases h8 : x0 = 8
  · subst h8; exact ⟨⟨#[78]⟩, true, 8, 0, 0, 0, x4, by decide, rfl, rfl, by simp [insOkB, insBeq, Bool.and_assoc]⟩
  by_cases h9 : x0 = 9
  · subst h9; exact ⟨⟨#[]⟩, true, 9, 0, 0, 0, 0, by decide, rfl, rfl, by simp [insOkB, insBeq, Bool.and_assoc]⟩
  by_cases h10 : x0 = 10
  · subst h10; exact ⟨⟨#[82, 65, 66]⟩, true, 10, x1, x2, x3, 0, by decide, rfl, rfl, by simp [insOkB, insBeq, Bool.and_assoc]⟩
  exact ⟨⟨#[]⟩, false, x0, 0, 0, 0, 0, by decide, by simp [impl_form.f, impl_form.j0, impl_form.j1, h1, h2, h3, h4, h5, h6, h7, h8, h9, h10], rfl, by simp [insOkB, h1, h2, h3, h4, h5, h6, h7, h8, h9, h10]⟩
theorem impl_InsOk.calls (a0_0 : Int) (a0_1 : Int) (a0_2 : Int) (a0_3 : Int) (a0_4 : Int) (r : Bool) (w : World) (h : impl_InsOk.f a0_0 a0_1 a0_2 a0_3 a0_4 = some r) :
    Calls Try.prog 91 #[.agg #[.int .i64 a0_0, .int .i64 a0_1, .int .i64 a0_2, .int .i64 a0_3, .int .i64 a0_4]] w fun e w' => e = .returned (.bool r) ∧ Below w.heap.size w w' := by
  obtain ⟨s, ok, y0, y1, y2, y3, y4, hs, hf, hy, hb⟩ := insForm a0_0 a0_1 a0_2 a0_3 a0_4
  obtain rfl := Option.some.inj h
  rw [← hb]
  exact insOk_calls 3 _ _ _ _ _ s ok w hs hf y0 y1 y2 y3 y4 hy _ _ _ _ (insFrom _ _ _) (insFrom _ _ _) (insFrom _ _ _) (insFrom _ _ _)

/-! ### impl_Decode: function 87 -/
def impl_Decode.f (a0 : Int) : Option (Int × Int × Int × Int × Int × Bool) := (impl_isWord.f a0).bind fun t116 => (if t116 = true then ((impl_InsOk.f (Int.tmod a0 16) (Int.tmod (wrap64 (Int.tdiv a0 16)) 4) (Int.tmod (wrap64 (Int.tdiv a0 64)) 4) (Int.tmod (wrap64 (Int.tdiv a0 256)) 4) (wrap64 (Int.tdiv a0 1024))).bind fun t118 => (if t118 = true then (some (Int.tmod a0 16, Int.tmod (wrap64 (Int.tdiv a0 16)) 4, Int.tmod (wrap64 (Int.tdiv a0 64)) 4, Int.tmod (wrap64 (Int.tdiv a0 256)) 4, wrap64 (Int.tdiv a0 1024), true)) else (some (0, 0, 0, 0, 0, false)))) else (some (0, 0, 0, 0, 0, false)))
theorem impl_Decode.calls (a0 : Int) (r1 : Int) (r2 : Int) (r3 : Int) (r4 : Int) (r5 : Int) (r6 : Bool) (w : World) (h : impl_Decode.f a0 = some (r1, r2, r3, r4, r5, r6)) :
    Calls Try.prog 87 #[.int .i64 a0] w fun e w' => e = .returned (.tuple #[.agg #[.int .i64 r1, .int .i64 r2, .int .i64 r3, .int .i64 r4, .int .i64 r5], .bool r6]) ∧ Below w.heap.size w w' := by
  have hu59 := Try.underlying59
  have HB := zM (Below.refl w.heap.size w)
  unfold impl_Decode.f at h
  have H := h
  clear h
  replace H := zO H
  obtain ⟨t116, A2, H⟩ := H
  by_cases c3 : t116 = true
  rotate_left
  · replace c3 := Bool.eq_false_iff.mpr c3
    subst c3
    rw [if_neg zF] at H
    simp only [Option.some.injEq, Prod.mk.injEq] at H
    obtain ⟨rfl, rfl, rfl, rfl, rfl, rfl⟩ := H
    go_enter Try.func87, Try.ntmps87
    go_wp2_with (first | ((with_reducible refine zBx 2 59 #[.int .i64 0, .int .i64 0, .int .i64 0, .int .i64 0, .int .i64 0] ?_); intro gb115 hg w19 hbox hb; have BK115 := zM hbox; have GW115 := zM (zW hg (below_size zB0)); have GE115 := zM (zW hg (below_size zB0)); replace HB := zM (below_step zB0 hb); clear hb hbox hg) | ((with_reducible refine zG Try.func72 6 #[.int .i64 a0] ?_); (with_reducible refine (impl_isWord.calls a0 false _ A2.1).mono ?_); rintro e w' ⟨rfl, ⟨nd, rfl⟩⟩; refine ⟨_, rfl, ?_⟩; (try (rw [drewN_self w19]; generalize hq_ : World.drewN w19 _ = w19; have n0_ : Aside0 (w19.heap[gb115]? = some (.cells #[.int .i64 0, .int .i64 0, .int .i64 0, .int .i64 0, .int .i64 0] 59 (0, 0))) := ⟨by rw [← hq_]; exact (zK BK115.1)⟩; have n1_ : Aside0 (Below w.heap.size w w19) := ⟨by rw [← hq_]; exact zB0⟩; clear BK115 HB hq_; have BK115 := n0_; have HB := n1_; clear n0_ n1_)); have hcz20 := zc_5 (w := w19) BK115.1))
    refine bodyPost_ret (results_ct rfl _ _ gb115 59 #[.int .i64 0, .int .i64 0, .int .i64 0, .int .i64 0, .int .i64 0] (0, 0) _ rfl (by exact zp5 (zK BK115.1)) Try.underlying59 rfl (by kernel_rfl)) rfl ?_
    exact ⟨zE, zB0⟩
  subst c3
  rw [if_pos rfl] at H
  replace H := zO H
  obtain ⟨t118, A4, H⟩ := H
  by_cases c5 : t118 = true
  rotate_left
  · replace c5 := Bool.eq_false_iff.mpr c5
    subst c5
    rw [if_neg zF] at H
    simp only [Option.some.injEq, Prod.mk.injEq] at H
    obtain ⟨rfl, rfl, rfl, rfl, rfl, rfl⟩ := H
    go_enter Try.func87, Try.ntmps87
    go_wp2_with (first | ((with_reducible refine zBx 2 59 #[.int .i64 0, .int .i64 0, .int .i64 0, .int .i64 0, .int .i64 0] ?_); intro gb115 hg w13 hbox hb; have BK115 := zM hbox; have GW115 := zM (zW hg (below_size zB0)); have GE115 := zM (zW hg (below_size zB0)); replace HB := zM (below_step zB0 hb); clear hb hbox hg) | ((with_reducible refine zG Try.func72 6 #[.int .i64 a0] ?_); (with_reducible refine (impl_isWord.calls a0 true _ A2.1).mono ?_); rintro e w' ⟨rfl, ⟨nd, rfl⟩⟩; refine ⟨_, rfl, ?_⟩; (try (rw [drewN_self w13]; generalize hq_ : World.drewN w13 _ = w13; have n0_ : Aside0 (w13.heap[gb115]? = some (.cells #[.int .i64 0, .int .i64 0, .int .i64 0, .int .i64 0, .int .i64 0] 59 (0, 0))) := ⟨by rw [← hq_]; exact (zK BK115.1)⟩; have n1_ : Aside0 (Below w.heap.size w w13) := ⟨by rw [← hq_]; exact zB0⟩; clear BK115 HB hq_; have BK115 := n0_; have HB := n1_; clear n0_ n1_))) | ((with_reducible refine zBx 4 59 #[.int .i64 0, .int .i64 0, .int .i64 0, .int .i64 0, .int .i64 0] ?_); intro gb117 hg w14 hbox hb; have BK117 := zM hbox; have GW117 := zM (zW hg (below_size zB0)); have GE117 := zM (zW hg (below_size zB0)); replace HB := zM (below_step zB0 hb); have NB115_117 := zM ((zn BK115.1 hg : gb115 ≠ gb117)); have NB117_115 := zM ((zm BK115.1 hg : gb117 ≠ gb115)); replace BK115 := zM (zb BK115.1 hb); clear hb hbox hg; have hnb15 := NB117_115.1; have hnc15 := NB115_117.1; have hcz16 := zc_5 (w := w14) BK117.1) | ((with_reducible refine zG Try.func91 24 #[.agg #[.int .i64 (Int.tmod a0 16), .int .i64 (Int.tmod (wrap64 (Int.tdiv a0 16)) 4), .int .i64 (Int.tmod (wrap64 (Int.tdiv a0 64)) 4), .int .i64 (Int.tmod (wrap64 (Int.tdiv a0 256)) 4), .int .i64 (wrap64 (Int.tdiv a0 1024))]] ?_); (with_reducible refine (impl_InsOk.calls (Int.tmod a0 16) (Int.tmod (wrap64 (Int.tdiv a0 16)) 4) (Int.tmod (wrap64 (Int.tdiv a0 64)) 4) (Int.tmod (wrap64 (Int.tdiv a0 256)) 4) (wrap64 (Int.tdiv a0 1024)) false _ A4.1).mono ?_); rintro e w17 ⟨rfl, hb⟩; refine ⟨_, rfl, ?_⟩; replace BK115 := zM (zf BK115.1 hb); replace BK117 := zM (blk_below (g := gb117) (o := .cells #[.int .i64 (Int.tmod a0 16), .int .i64 (Int.tmod (wrap64 (Int.tdiv a0 16)) 4), .int .i64 (Int.tmod (wrap64 (Int.tdiv a0 64)) 4), .int .i64 (Int.tmod (wrap64 (Int.tdiv a0 256)) 4), .int .i64 (wrap64 (Int.tdiv a0 1024))] 59 (0, 0)) (by exact zp5 (zK BK117.1)) hb); replace HB := zM (below_step zB0 hb); clear hb; have hcz18 := zc_5 (w := w17) BK115.1))
    refine bodyPost_ret (results_ct rfl _ _ gb115 59 #[.int .i64 0, .int .i64 0, .int .i64 0, .int .i64 0, .int .i64 0] (0, 0) _ rfl (by exact zp5 (zK BK115.1)) Try.underlying59 rfl (by kernel_rfl)) rfl ?_
    exact ⟨zE, zB0⟩
  subst c5
  rw [if_pos rfl] at H
  simp only [Option.some.injEq, Prod.mk.injEq] at H
  obtain ⟨rfl, rfl, rfl, rfl, rfl, rfl⟩ := H
  go_enter Try.func87, Try.ntmps87
  go_wp2_with (first | ((with_reducible refine zBx 2 59 #[.int .i64 0, .int .i64 0, .int .i64 0, .int .i64 0, .int .i64 0] ?_); intro gb115 hg w6 hbox hb; have BK115 := zM hbox; have GW115 := zM (zW hg (below_size zB0)); have GE115 := zM (zW hg (below_size zB0)); replace HB := zM (below_step zB0 hb); clear hb hbox hg) | ((with_reducible refine zG Try.func72 6 #[.int .i64 a0] ?_); (with_reducible refine (impl_isWord.calls a0 true _ A2.1).mono ?_); rintro e w' ⟨rfl, ⟨nd, rfl⟩⟩; refine ⟨_, rfl, ?_⟩; (try (rw [drewN_self w6]; generalize hq_ : World.drewN w6 _ = w6; have n0_ : Aside0 (w6.heap[gb115]? = some (.cells #[.int .i64 0, .int .i64 0, .int .i64 0, .int .i64 0, .int .i64 0] 59 (0, 0))) := ⟨by rw [← hq_]; exact (zK BK115.1)⟩; have n1_ : Aside0 (Below w.heap.size w w6) := ⟨by rw [← hq_]; exact zB0⟩; clear BK115 HB hq_; have BK115 := n0_; have HB := n1_; clear n0_ n1_))) | ((with_reducible refine zBx 4 59 #[.int .i64 0, .int .i64 0, .int .i64 0, .int .i64 0, .int .i64 0] ?_); intro gb117 hg w7 hbox hb; have BK117 := zM hbox; have GW117 := zM (zW hg (below_size zB0)); have GE117 := zM (zW hg (below_size zB0)); replace HB := zM (below_step zB0 hb); have NB115_117 := zM ((zn BK115.1 hg : gb115 ≠ gb117)); have NB117_115 := zM ((zm BK115.1 hg : gb117 ≠ gb115)); replace BK115 := zM (zb BK115.1 hb); clear hb hbox hg; have hnb8 := NB117_115.1; have hnc8 := NB115_117.1; have hcz9 := zc_5 (w := w7) BK117.1) | ((with_reducible refine zG Try.func91 24 #[.agg #[.int .i64 (Int.tmod a0 16), .int .i64 (Int.tmod (wrap64 (Int.tdiv a0 16)) 4), .int .i64 (Int.tmod (wrap64 (Int.tdiv a0 64)) 4), .int .i64 (Int.tmod (wrap64 (Int.tdiv a0 256)) 4), .int .i64 (wrap64 (Int.tdiv a0 1024))]] ?_); (with_reducible refine (impl_InsOk.calls (Int.tmod a0 16) (Int.tmod (wrap64 (Int.tdiv a0 16)) 4) (Int.tmod (wrap64 (Int.tdiv a0 64)) 4) (Int.tmod (wrap64 (Int.tdiv a0 256)) 4) (wrap64 (Int.tdiv a0 1024)) true _ A4.1).mono ?_); rintro e w10 ⟨rfl, hb⟩; refine ⟨_, rfl, ?_⟩; replace BK115 := zM (zf BK115.1 hb); replace BK117 := zM (blk_below (g := gb117) (o := .cells #[.int .i64 (Int.tmod a0 16), .int .i64 (Int.tmod (wrap64 (Int.tdiv a0 16)) 4), .int .i64 (Int.tmod (wrap64 (Int.tdiv a0 64)) 4), .int .i64 (Int.tmod (wrap64 (Int.tdiv a0 256)) 4), .int .i64 (wrap64 (Int.tdiv a0 1024))] 59 (0, 0)) (by exact zp5 (zK BK117.1)) hb); replace HB := zM (below_step zB0 hb); clear hb; have hcz11 := zc_5 (w := w10) BK117.1; have hcz12 := zc_5 (w := w10) BK115.1))
  refine bodyPost_ret (results_ct rfl _ _ gb115 59 #[.int .i64 (Int.tmod a0 16), .int .i64 (Int.tmod (wrap64 (Int.tdiv a0 16)) 4), .int .i64 (Int.tmod (wrap64 (Int.tdiv a0 64)) 4), .int .i64 (Int.tmod (wrap64 (Int.tdiv a0 256)) 4), .int .i64 (wrap64 (Int.tdiv a0 1024))] (0, 0) _ rfl (by exact zp5 (zK BK115.1)) Try.underlying59 rfl (by kernel_rfl)) rfl ?_
  exact ⟨zE, zB0⟩

/-! ### impl_aims: function 113 -/
def impl_aims.f (a0_0 : Int) (a0_1 : Int) (a0_2 : Int) (a0_3 : Int) (a0_4 : Int) : Option (Bool) := if a0_0 = 4 then (some true) else (if a0_0 = 5 then (some true) else (some (a0_0 == 6)))
theorem impl_aims.calls (a0_0 : Int) (a0_1 : Int) (a0_2 : Int) (a0_3 : Int) (a0_4 : Int) (r : Bool) (w : World) (h : impl_aims.f a0_0 a0_1 a0_2 a0_3 a0_4 = some r) :
    Calls Try.prog 113 #[.agg #[.int .i64 a0_0, .int .i64 a0_1, .int .i64 a0_2, .int .i64 a0_3, .int .i64 a0_4]] w fun e w' => e = .returned (.bool r) ∧ Below w.heap.size w w' := by
  have hu59 := Try.underlying59
  have HB := zM (Below.refl w.heap.size w)
  unfold impl_aims.f at h
  have H := h
  clear h
  by_cases c2 : a0_0 = 4
  · rw [if_pos c2] at H
    have c2b0 : (a0_0 == 4) = true := beq_iff_eq.mpr c2
    have c2b1 : (a0_0 != 4) = false := bne_eq_false_iff_eq.mpr c2
    clear c2
    obtain rfl := Option.some.inj H
    go_enter Try.func113, Try.ntmps113
    go_wp2_with (first | ((with_reducible refine zBx 1 59 #[.int .i64 a0_0, .int .i64 a0_1, .int .i64 a0_2, .int .i64 a0_3, .int .i64 a0_4] ?_); intro gb119 hg w3 hbox hb; have BK119 := zM hbox; have GW119 := zM (zW hg (below_size zB0)); have GE119 := zM (zW hg (below_size zB0)); replace HB := zM (below_step zB0 hb); clear hb hbox hg; have hcz4 := zc_5 (w := w3) BK119.1))
    go_ret
    exact ⟨zE, zB0⟩
  rw [if_neg c2] at H
  have c2b0 : (a0_0 == 4) = false := beq_eq_false_iff_ne.mpr c2
  have c2b1 : (a0_0 != 4) = true := bne_iff_ne.mpr c2
  by_cases c5 : a0_0 = 5
  rotate_left
  · rw [if_neg c5] at H
    have c5b0 : (a0_0 == 5) = false := beq_eq_false_iff_ne.mpr c5
    have c5b1 : (a0_0 != 5) = true := bne_iff_ne.mpr c5
    obtain rfl := Option.some.inj H
    go_enter Try.func113, Try.ntmps113
    go_wp2_with (first | ((with_reducible refine zBx 1 59 #[.int .i64 a0_0, .int .i64 a0_1, .int .i64 a0_2, .int .i64 a0_3, .int .i64 a0_4] ?_); intro gb119 hg w8 hbox hb; have BK119 := zM hbox; have GW119 := zM (zW hg (below_size zB0)); have GE119 := zM (zW hg (below_size zB0)); replace HB := zM (below_step zB0 hb); clear hb hbox hg; have hcz9 := zc_5 (w := w8) BK119.1))
    go_ret
    exact ⟨zE, zB0⟩
  rw [if_pos c5] at H
  have c5b0 : (a0_0 == 5) = true := beq_iff_eq.mpr c5
  have c5b1 : (a0_0 != 5) = false := bne_eq_false_iff_eq.mpr c5
  clear c5
  obtain rfl := Option.some.inj H
  go_enter Try.func113, Try.ntmps113
  go_wp2_with (first | ((with_reducible refine zBx 1 59 #[.int .i64 a0_0, .int .i64 a0_1, .int .i64 a0_2, .int .i64 a0_3, .int .i64 a0_4] ?_); intro gb119 hg w6 hbox hb; have BK119 := zM hbox; have GW119 := zM (zW hg (below_size zB0)); have GE119 := zM (zW hg (below_size zB0)); replace HB := zM (below_step zB0 hb); clear hb hbox hg; have hcz7 := zc_5 (w := w6) BK119.1))
  go_ret
  exact ⟨zE, zB0⟩

/-! ### impl_address: function 114 -/
def impl_address.f (a0 : Int) : Option (Int) := some (Int.tmod (wrap64 ((Int.tmod a0 24) + 24)) 24)
theorem impl_address.calls (a0 : Int) (r : Int) (w : World) (h : impl_address.f a0 = some r) :
    Calls Try.prog 114 #[.int .i64 a0] w fun e w' => e = .returned (.int .i64 r) ∧ Drawn0 w w' := by
  unfold impl_address.f at h
  have H := h
  clear h
  obtain rfl := Option.some.inj H
  go_enter Try.func114, Try.ntmps114
  go_wp2
  go_ret
  exact ⟨zJJ, zDD⟩

/-! ### impl_Target: function 88 -/
def impl_Target.f (a0_0 : Int) (a0_1 : Int) (a0_2 : Int) (a0_3 : Int) (a0_4 : Int) (l1 : List Int) : Option (Int) := (impl_InsOk.f a0_0 a0_1 a0_2 a0_3 a0_4).bind fun t121 => (if t121 = true then ((impl_aims.f a0_0 a0_1 a0_2 a0_3 a0_4).bind fun t122 => (if t122 = true then (if (l1.length : Int) = 4 then (if 0 ≤ a0_2 then (if a0_2 < (l1.length : Int) then ((impl_address.f (wrap64 ((rd l1 a0_2) + a0_4))).bind fun t124 => (some t124)) else (none)) else (none)) else (some (-1))) else (some (-1)))) else (some (-1)))
theorem impl_Target.calls (a0_0 : Int) (a0_1 : Int) (a0_2 : Int) (a0_3 : Int) (a0_4 : Int) (A1 : Option Addr) (c1 : Nat) (l1 : List Int) (r : Int) (w : World) (hr1 : Kd.C (Kd.int .i64) w A1 l1.length l1) (hc1 : l1.length ≤ c1) (h : impl_Target.f a0_0 a0_1 a0_2 a0_3 a0_4 l1 = some r) :
    Calls Try.prog 88 #[.agg #[.int .i64 a0_0, .int .i64 a0_1, .int .i64 a0_2, .int .i64 a0_3, .int .i64 a0_4], .slice A1 l1.length c1] w fun e w' => e = .returned (.int .i64 r) ∧ Below w.heap.size w w' := by
  have hu59 := Try.underlying59
  have HR1 := zM hr1
  have HC1 := zM hc1
  clear hr1 hc1
  have HB := zM (Below.refl w.heap.size w)
  unfold impl_Target.f at h
  have H := h
  clear h
  replace H := zO H
  obtain ⟨t121, A3, H⟩ := H
  by_cases c4 : t121 = true
  rotate_left
  · replace c4 := Bool.eq_false_iff.mpr c4
    subst c4
    rw [if_neg zF] at H
    obtain rfl := Option.some.inj H
    go_enter Try.func88, Try.ntmps88
    go_wp2_with (first | ((with_reducible refine gate_dst (N := 2) rfl ?_); (try (refine gate_guard (by rfl) ?_; dsimp only)); (with_reducible refine zBx 2 59 #[.int .i64 a0_0, .int .i64 a0_1, .int .i64 a0_2, .int .i64 a0_3, .int .i64 a0_4] ?_); intro gb120 hg w27 hbox hb; have BK120 := zM hbox; have GW120 := zM (zW hg (below_size zB0)); have GE120 := zM (zW hg (below_size zB0)); replace HB := zM (below_step zB0 hb); clear hb hbox hg; have hcz28 := zc_5 (w := w27) BK120.1) | (go_at_call 91; (with_reducible refine (impl_InsOk.calls a0_0 a0_1 a0_2 a0_3 a0_4 false _ A3.1).mono ?_); rintro e w29 ⟨rfl, hb⟩; replace BK120 := zM (zb BK120.1 hb); replace HB := zM (below_step zB0 hb); clear hb))
    repeat (go_quiet (first | ((with_reducible refine gate_dst (N := 2) rfl ?_); (try (refine gate_guard (by rfl) ?_; dsimp only)); (with_reducible refine zBx 2 59 #[.int .i64 a0_0, .int .i64 a0_1, .int .i64 a0_2, .int .i64 a0_3, .int .i64 a0_4] ?_); intro gb120 hg w27 hbox hb; have BK120 := zM hbox; have GW120 := zM (zW hg (below_size zB0)); have GE120 := zM (zW hg (below_size zB0)); replace HB := zM (below_step zB0 hb); clear hb hbox hg; have hcz28 := zc_5 (w := w27) BK120.1) | (go_at_call 91; (with_reducible refine (impl_InsOk.calls a0_0 a0_1 a0_2 a0_3 a0_4 false _ A3.1).mono ?_); rintro e w29 ⟨rfl, hb⟩; replace BK120 := zM (zb BK120.1 hb); replace HB := zM (below_step zB0 hb); clear hb)); try go_wp2_with (first | ((with_reducible refine gate_dst (N := 2) rfl ?_); (try (refine gate_guard (by rfl) ?_; dsimp only)); (with_reducible refine zBx 2 59 #[.int .i64 a0_0, .int .i64 a0_1, .int .i64 a0_2, .int .i64 a0_3, .int .i64 a0_4] ?_); intro gb120 hg w27 hbox hb; have BK120 := zM hbox; have GW120 := zM (zW hg (below_size zB0)); have GE120 := zM (zW hg (below_size zB0)); replace HB := zM (below_step zB0 hb); clear hb hbox hg; have hcz28 := zc_5 (w := w27) BK120.1) | (go_at_call 91; (with_reducible refine (impl_InsOk.calls a0_0 a0_1 a0_2 a0_3 a0_4 false _ A3.1).mono ?_); rintro e w29 ⟨rfl, hb⟩; replace BK120 := zM (zb BK120.1 hb); replace HB := zM (below_step zB0 hb); clear hb)))
    go_ret
    exact ⟨zE, zB0⟩
  subst c4
  rw [if_pos rfl] at H
  replace H := zO H
  obtain ⟨t122, A5, H⟩ := H
  by_cases c6 : t122 = true
  rotate_left
  · replace c6 := Bool.eq_false_iff.mpr c6
    subst c6
    rw [if_neg zF] at H
    obtain rfl := Option.some.inj H
    go_enter Try.func88, Try.ntmps88
    go_wp2_with (first | ((with_reducible refine gate_dst (N := 2) rfl ?_); (try (refine gate_guard (by rfl) ?_; dsimp only)); (with_reducible refine zBx 2 59 #[.int .i64 a0_0, .int .i64 a0_1, .int .i64 a0_2, .int .i64 a0_3, .int .i64 a0_4] ?_); intro gb120 hg w22 hbox hb; have BK120 := zM hbox; have GW120 := zM (zW hg (below_size zB0)); have GE120 := zM (zW hg (below_size zB0)); replace HB := zM (below_step zB0 hb); clear hb hbox hg; have hcz23 := zc_5 (w := w22) BK120.1) | (go_at_call 91; (with_reducible refine (impl_InsOk.calls a0_0 a0_1 a0_2 a0_3 a0_4 true _ A3.1).mono ?_); rintro e w24 ⟨rfl, hb⟩; replace BK120 := zM (zb BK120.1 hb); replace HB := zM (below_step zB0 hb); clear hb; have hcz25 := zc_5 (w := w24) BK120.1) | (go_at_call 113; (with_reducible refine (impl_aims.calls a0_0 a0_1 a0_2 a0_3 a0_4 false _ A5.1).mono ?_); rintro e w26 ⟨rfl, hb⟩; replace BK120 := zM (zb BK120.1 hb); replace HB := zM (below_step zB0 hb); clear hb))
    repeat (go_quiet (first | ((with_reducible refine gate_dst (N := 2) rfl ?_); (try (refine gate_guard (by rfl) ?_; dsimp only)); (with_reducible refine zBx 2 59 #[.int .i64 a0_0, .int .i64 a0_1, .int .i64 a0_2, .int .i64 a0_3, .int .i64 a0_4] ?_); intro gb120 hg w22 hbox hb; have BK120 := zM hbox; have GW120 := zM (zW hg (below_size zB0)); have GE120 := zM (zW hg (below_size zB0)); replace HB := zM (below_step zB0 hb); clear hb hbox hg; have hcz23 := zc_5 (w := w22) BK120.1) | (go_at_call 91; (with_reducible refine (impl_InsOk.calls a0_0 a0_1 a0_2 a0_3 a0_4 true _ A3.1).mono ?_); rintro e w24 ⟨rfl, hb⟩; replace BK120 := zM (zb BK120.1 hb); replace HB := zM (below_step zB0 hb); clear hb; have hcz25 := zc_5 (w := w24) BK120.1) | (go_at_call 113; (with_reducible refine (impl_aims.calls a0_0 a0_1 a0_2 a0_3 a0_4 false _ A5.1).mono ?_); rintro e w26 ⟨rfl, hb⟩; replace BK120 := zM (zb BK120.1 hb); replace HB := zM (below_step zB0 hb); clear hb)); try go_wp2_with (first | ((with_reducible refine gate_dst (N := 2) rfl ?_); (try (refine gate_guard (by rfl) ?_; dsimp only)); (with_reducible refine zBx 2 59 #[.int .i64 a0_0, .int .i64 a0_1, .int .i64 a0_2, .int .i64 a0_3, .int .i64 a0_4] ?_); intro gb120 hg w22 hbox hb; have BK120 := zM hbox; have GW120 := zM (zW hg (below_size zB0)); have GE120 := zM (zW hg (below_size zB0)); replace HB := zM (below_step zB0 hb); clear hb hbox hg; have hcz23 := zc_5 (w := w22) BK120.1) | (go_at_call 91; (with_reducible refine (impl_InsOk.calls a0_0 a0_1 a0_2 a0_3 a0_4 true _ A3.1).mono ?_); rintro e w24 ⟨rfl, hb⟩; replace BK120 := zM (zb BK120.1 hb); replace HB := zM (below_step zB0 hb); clear hb; have hcz25 := zc_5 (w := w24) BK120.1) | (go_at_call 113; (with_reducible refine (impl_aims.calls a0_0 a0_1 a0_2 a0_3 a0_4 false _ A5.1).mono ?_); rintro e w26 ⟨rfl, hb⟩; replace BK120 := zM (zb BK120.1 hb); replace HB := zM (below_step zB0 hb); clear hb)))
    go_ret
    exact ⟨zE, zB0⟩
  subst c6
  rw [if_pos rfl] at H
  by_cases c7 : (l1.length : Int) = 4
  rotate_left
  · rw [if_neg c7] at H
    have c7b0 : ((l1.length : Int) == 4) = false := beq_eq_false_iff_ne.mpr c7
    have c7b1 : ((l1.length : Int) != 4) = true := bne_iff_ne.mpr c7
    obtain rfl := Option.some.inj H
    go_enter Try.func88, Try.ntmps88
    go_wp2_with (first | ((with_reducible refine gate_dst (N := 2) rfl ?_); (try (refine gate_guard (by rfl) ?_; dsimp only)); (with_reducible refine zBx 2 59 #[.int .i64 a0_0, .int .i64 a0_1, .int .i64 a0_2, .int .i64 a0_3, .int .i64 a0_4] ?_); intro gb120 hg w17 hbox hb; have BK120 := zM hbox; have GW120 := zM (zW hg (below_size zB0)); have GE120 := zM (zW hg (below_size zB0)); replace HB := zM (below_step zB0 hb); clear hb hbox hg; have hcz18 := zc_5 (w := w17) BK120.1) | (go_at_call 91; (with_reducible refine (impl_InsOk.calls a0_0 a0_1 a0_2 a0_3 a0_4 true _ A3.1).mono ?_); rintro e w19 ⟨rfl, hb⟩; replace BK120 := zM (zb BK120.1 hb); replace HB := zM (below_step zB0 hb); clear hb; have hcz20 := zc_5 (w := w19) BK120.1) | (go_at_call 113; (with_reducible refine (impl_aims.calls a0_0 a0_1 a0_2 a0_3 a0_4 true _ A5.1).mono ?_); rintro e w21 ⟨rfl, hb⟩; replace BK120 := zM (zb BK120.1 hb); replace HB := zM (below_step zB0 hb); clear hb))
    repeat (go_quiet (first | ((with_reducible refine gate_dst (N := 2) rfl ?_); (try (refine gate_guard (by rfl) ?_; dsimp only)); (with_reducible refine zBx 2 59 #[.int .i64 a0_0, .int .i64 a0_1, .int .i64 a0_2, .int .i64 a0_3, .int .i64 a0_4] ?_); intro gb120 hg w17 hbox hb; have BK120 := zM hbox; have GW120 := zM (zW hg (below_size zB0)); have GE120 := zM (zW hg (below_size zB0)); replace HB := zM (below_step zB0 hb); clear hb hbox hg; have hcz18 := zc_5 (w := w17) BK120.1) | (go_at_call 91; (with_reducible refine (impl_InsOk.calls a0_0 a0_1 a0_2 a0_3 a0_4 true _ A3.1).mono ?_); rintro e w19 ⟨rfl, hb⟩; replace BK120 := zM (zb BK120.1 hb); replace HB := zM (below_step zB0 hb); clear hb; have hcz20 := zc_5 (w := w19) BK120.1) | (go_at_call 113; (with_reducible refine (impl_aims.calls a0_0 a0_1 a0_2 a0_3 a0_4 true _ A5.1).mono ?_); rintro e w21 ⟨rfl, hb⟩; replace BK120 := zM (zb BK120.1 hb); replace HB := zM (below_step zB0 hb); clear hb)); try go_wp2_with (first | ((with_reducible refine gate_dst (N := 2) rfl ?_); (try (refine gate_guard (by rfl) ?_; dsimp only)); (with_reducible refine zBx 2 59 #[.int .i64 a0_0, .int .i64 a0_1, .int .i64 a0_2, .int .i64 a0_3, .int .i64 a0_4] ?_); intro gb120 hg w17 hbox hb; have BK120 := zM hbox; have GW120 := zM (zW hg (below_size zB0)); have GE120 := zM (zW hg (below_size zB0)); replace HB := zM (below_step zB0 hb); clear hb hbox hg; have hcz18 := zc_5 (w := w17) BK120.1) | (go_at_call 91; (with_reducible refine (impl_InsOk.calls a0_0 a0_1 a0_2 a0_3 a0_4 true _ A3.1).mono ?_); rintro e w19 ⟨rfl, hb⟩; replace BK120 := zM (zb BK120.1 hb); replace HB := zM (below_step zB0 hb); clear hb; have hcz20 := zc_5 (w := w19) BK120.1) | (go_at_call 113; (with_reducible refine (impl_aims.calls a0_0 a0_1 a0_2 a0_3 a0_4 true _ A5.1).mono ?_); rintro e w21 ⟨rfl, hb⟩; replace BK120 := zM (zb BK120.1 hb); replace HB := zM (below_step zB0 hb); clear hb)))
    go_ret
    exact ⟨zE, zB0⟩
  rw [if_pos c7] at H
  have c7b0 : ((l1.length : Int) == 4) = true := beq_iff_eq.mpr c7
  have c7b1 : ((l1.length : Int) != 4) = false := bne_eq_false_iff_eq.mpr c7
  clear c7
  by_cases c8 : 0 ≤ a0_2
  rotate_left
  · rw [if_neg c8] at H
    exact absurd H (by simp)
  rw [if_pos c8] at H
  have c8b0 := decide_eq_true c8
  clear c8
  by_cases c9 : a0_2 < (l1.length : Int)
  rotate_left
  · rw [if_neg c9] at H
    exact absurd H (by simp)
  rw [if_pos c9] at H
  have c9b0 := decide_eq_true c9
  clear c9
  replace H := zO H
  obtain ⟨t124, A10, H⟩ := H
  obtain rfl := Option.some.inj H
  go_enter Try.func88, Try.ntmps88
  go_wp2_with (first | ((with_reducible refine gate_dst (N := 2) rfl ?_); (try (refine gate_guard (by rfl) ?_; dsimp only)); (with_reducible refine zBx 2 59 #[.int .i64 a0_0, .int .i64 a0_1, .int .i64 a0_2, .int .i64 a0_3, .int .i64 a0_4] ?_); intro gb120 hg w11 hbox hb; have BK120 := zM hbox; have GW120 := zM (zW hg (below_size zB0)); have GE120 := zM (zW hg (below_size zB0)); replace HB := zM (below_step zB0 hb); clear hb hbox hg; have hcz12 := zc_5 (w := w11) BK120.1) | (go_at_call 91; (with_reducible refine (impl_InsOk.calls a0_0 a0_1 a0_2 a0_3 a0_4 true _ A3.1).mono ?_); rintro e w13 ⟨rfl, hb⟩; replace BK120 := zM (zb BK120.1 hb); replace HB := zM (below_step zB0 hb); clear hb; have hcz14 := zc_5 (w := w13) BK120.1) | (go_at_call 113; (with_reducible refine (impl_aims.calls a0_0 a0_1 a0_2 a0_3 a0_4 true _ A5.1).mono ?_); rintro e w15 ⟨rfl, hb⟩; replace BK120 := zM (zb BK120.1 hb); replace HB := zM (below_step zB0 hb); clear hb; have hcz16 := zc_5 (w := w15) BK120.1; obtain ⟨p123, q123, ad123, e123, hx123_0⟩ := zRd (Kd.at_int HR1.1 a0_2); cases e123; replace hx123_0 := zHx HB.1 hx123_0) | (go_at_call 114; (with_reducible refine (impl_address.calls (wrap64 ((rd l1 a0_2) + a0_4)) t124 _ A10.1).mono ?_); rintro e w' ⟨rfl, ⟨nd, rfl⟩⟩; (try first | exact ⟨rfl, _, World.drewN_drewN _ _ _⟩ | exact ⟨rfl, _, Eq.trans (World.drewN_drewN _ _ _) (congrArg (World.drewN _) (Nat.add_assoc _ _ _))⟩)))
  repeat (go_quiet (first | ((with_reducible refine gate_dst (N := 2) rfl ?_); (try (refine gate_guard (by rfl) ?_; dsimp only)); (with_reducible refine zBx 2 59 #[.int .i64 a0_0, .int .i64 a0_1, .int .i64 a0_2, .int .i64 a0_3, .int .i64 a0_4] ?_); intro gb120 hg w11 hbox hb; have BK120 := zM hbox; have GW120 := zM (zW hg (below_size zB0)); have GE120 := zM (zW hg (below_size zB0)); replace HB := zM (below_step zB0 hb); clear hb hbox hg; have hcz12 := zc_5 (w := w11) BK120.1) | (go_at_call 91; (with_reducible refine (impl_InsOk.calls a0_0 a0_1 a0_2 a0_3 a0_4 true _ A3.1).mono ?_); rintro e w13 ⟨rfl, hb⟩; replace BK120 := zM (zb BK120.1 hb); replace HB := zM (below_step zB0 hb); clear hb; have hcz14 := zc_5 (w := w13) BK120.1) | (go_at_call 113; (with_reducible refine (impl_aims.calls a0_0 a0_1 a0_2 a0_3 a0_4 true _ A5.1).mono ?_); rintro e w15 ⟨rfl, hb⟩; replace BK120 := zM (zb BK120.1 hb); replace HB := zM (below_step zB0 hb); clear hb; have hcz16 := zc_5 (w := w15) BK120.1; obtain ⟨p123, q123, ad123, e123, hx123_0⟩ := zRd (Kd.at_int HR1.1 a0_2); cases e123; replace hx123_0 := zHx HB.1 hx123_0) | (go_at_call 114; (with_reducible refine (impl_address.calls (wrap64 ((rd l1 a0_2) + a0_4)) t124 _ A10.1).mono ?_); rintro e w' ⟨rfl, ⟨nd, rfl⟩⟩; (try first | exact ⟨rfl, _, World.drewN_drewN _ _ _⟩ | exact ⟨rfl, _, Eq.trans (World.drewN_drewN _ _ _) (congrArg (World.drewN _) (Nat.add_assoc _ _ _))⟩))); try go_wp2_with (first | ((with_reducible refine gate_dst (N := 2) rfl ?_); (try (refine gate_guard (by rfl) ?_; dsimp only)); (with_reducible refine zBx 2 59 #[.int .i64 a0_0, .int .i64 a0_1, .int .i64 a0_2, .int .i64 a0_3, .int .i64 a0_4] ?_); intro gb120 hg w11 hbox hb; have BK120 := zM hbox; have GW120 := zM (zW hg (below_size zB0)); have GE120 := zM (zW hg (below_size zB0)); replace HB := zM (below_step zB0 hb); clear hb hbox hg; have hcz12 := zc_5 (w := w11) BK120.1) | (go_at_call 91; (with_reducible refine (impl_InsOk.calls a0_0 a0_1 a0_2 a0_3 a0_4 true _ A3.1).mono ?_); rintro e w13 ⟨rfl, hb⟩; replace BK120 := zM (zb BK120.1 hb); replace HB := zM (below_step zB0 hb); clear hb; have hcz14 := zc_5 (w := w13) BK120.1) | (go_at_call 113; (with_reducible refine (impl_aims.calls a0_0 a0_1 a0_2 a0_3 a0_4 true _ A5.1).mono ?_); rintro e w15 ⟨rfl, hb⟩; replace BK120 := zM (zb BK120.1 hb); replace HB := zM (below_step zB0 hb); clear hb; have hcz16 := zc_5 (w := w15) BK120.1; obtain ⟨p123, q123, ad123, e123, hx123_0⟩ := zRd (Kd.at_int HR1.1 a0_2); cases e123; replace hx123_0 := zHx HB.1 hx123_0) | (go_at_call 114; (with_reducible refine (impl_address.calls (wrap64 ((rd l1 a0_2) + a0_4)) t124 _ A10.1).mono ?_); rintro e w' ⟨rfl, ⟨nd, rfl⟩⟩; (try first | exact ⟨rfl, _, World.drewN_drewN _ _ _⟩ | exact ⟨rfl, _, Eq.trans (World.drewN_drewN _ _ _) (congrArg (World.drewN _) (Nat.add_assoc _ _ _))⟩))))
  go_ret
  exact ⟨zE, zB0⟩

/-! ### impl_copyHart: function 86 -/
def impl_copyHart.f (l0_0 : List Int) (a0_1 : Int) (a0_2 : Int) : Option (List Int × Int × Int) := (slices_Clone_int_int.f l0_0).bind fun t127 => (some (t127, a0_1, a0_2))
theorem impl_copyHart.calls (A0_0 : Option Addr) (c0_0 : Nat) (l0_0 : List Int) (a0_1 : Int) (a0_2 : Int) (r1 : List Int) (r2 : Int) (r3 : Int) (w : World) (hr0_0 : Kd.C (Kd.int .i64) w A0_0 l0_0.length l0_0) (hc0_0 : l0_0.length ≤ c0_0) (h : impl_copyHart.f l0_0 a0_1 a0_2 = some (r1, r2, r3)) :
    Calls Try.prog 86 #[.agg #[.slice A0_0 l0_0.length c0_0, .int .i64 a0_1, .int .i64 a0_2]] w fun e w' => ∃ v0_ : Value, e = .returned (.agg #[v0_, .int .i64 r2, .int .i64 r3]) ∧ Kd.R (Kd.int .i64) 3 w' w.heap.size (fun _ => True) v0_ r1 ∧ Below w.heap.size w w' := by
  have hu29 := Try.underlying29
  have HR0_0 := zM hr0_0
  have HC0_0 := zM hc0_0
  clear hr0_0 hc0_0
  have HB := zM (Below.refl w.heap.size w)
  unfold impl_copyHart.f at h
  have H := h
  clear h
  replace H := zO H
  obtain ⟨t127, A2, H⟩ := H
  simp only [Option.some.injEq, Prod.mk.injEq] at H
  obtain ⟨rfl, rfl, rfl⟩ := H
  go_enter Try.func86, Try.ntmps86
  go_wp2_with (first | ((with_reducible refine zBx 1 29 #[.slice A0_0 l0_0.length c0_0, .int .i64 a0_1, .int .i64 a0_2] ?_); intro gb125 hg w3 hbox hb; have BK125 := zM hbox; have GW125 := zM (zW hg (below_size zB0)); have GE125 := zM (zW hg (below_size zB0)); replace HB := zM (below_step zB0 hb); clear hb hbox hg) | ((with_reducible refine zBx 2 29 #[.slice none 0 0, .int .i64 0, .int .i64 0] ?_); intro gb126 hg w4 hbox hb; have BK126 := zM hbox; have GW126 := zM (zW hg (below_size zB0)); have GE126 := zM (zW hg (below_size zB0)); replace HB := zM (below_step zB0 hb); have NB125_126 := zM ((zn BK125.1 hg : gb125 ≠ gb126)); have NB126_125 := zM ((zm BK125.1 hg : gb126 ≠ gb125)); replace BK125 := zM (zb BK125.1 hb); clear hb hbox hg; have hnb5 := NB125_126.1; have hnc5 := NB126_125.1; have hcz6 := zc_3 (w := w4) BK125.1) | ((with_reducible refine zG Try.func41 5 #[.slice A0_0 l0_0.length c0_0] ?_); (with_reducible refine (slices_Clone_int_int.calls _ _ l0_0 t127 _ ?side1 ?side2 A2.1).mono ?_); (case side1 => exact zC (Kd.C_below HR0_0.1 HB.1)); (case side2 => exact HC0_0.1); rintro e w7 ⟨v128, rfl, ho0, hb⟩; refine ⟨_, rfl, ?_⟩; have HO129 := zM (Kd.R_lower ho0 (below_size zB0)); replace BK125 := zM (zb BK125.1 hb); replace BK126 := zM (zb BK126.1 hb); replace HB := zM (below_step zB0 hb); clear hb ho0; obtain ⟨Ao8, co8, eo8⟩ := Kd.R_slice HO129.1; subst eo8; have hcz9 := zc_3 (w := w7) BK125.1; have hcz10 := zc_3 (w := w7) BK126.1))
  refine bodyPost_ret (results_cell_row rfl _ _ gb126 29 #[.slice Ao8 t127.length co8, .int .i64 a0_1, .int .i64 a0_2] (0, 0) _ rfl zPq Try.underlying29 rfl (by kernel_rfl)) rfl ?_
  exact ⟨_, zE, by refine zrR ?_; exact Kd.R_mono (zfR (zfR (zfR (zgR (Kd.R_types (Kd.R_types HO129.1 BK125.1 (by decide)) BK126.1 (by decide)))))) (fun _ hk => trivial), zB0⟩

/-! ### impl_wrapped: function 115 -/
def impl_wrapped.f (a0 : Int) : Option (Int) := some (Int.tmod (wrap64 ((wrap64 ((Int.tmod a0 65536) + 65535)) + 1)) 65536)
theorem impl_wrapped.calls (a0 : Int) (r : Int) (w : World) (h : impl_wrapped.f a0 = some r) :
    Calls Try.prog 115 #[.int .i64 a0] w fun e w' => e = .returned (.int .i64 r) ∧ Drawn0 w w' := by
  unfold impl_wrapped.f at h
  have H := h
  clear h
  obtain rfl := Option.some.inj H
  go_enter Try.func115, Try.ntmps115
  go_wp2
  go_ret
  exact ⟨zJJ, zDD⟩

end Go.Proofs.Ytnjdepmlpdjghaa.PFnFinals
