-- made by wip/tools/myprint.py out of the seat's translation
import Derived.Test.YtajhfpeijagpnaaPFnFlowsx0
import Derived.Shelf.Slices.Cells
import Derived.Shelf.Slices.CompactI
import Derived.Test.YtajhfpeijagpnaaPFnFlowsx1
import Derived.Test.YtajhfpeijagpnaaPFnFlowsx4
namespace Go.Proofs.Ytajhfpeijagpnaa.PFnFlows
open Go.RowKit Go.Proofs.YtajhfpeijagpnaaW.PrintWords Go.Proofs.YtajhfpeijagpnaaW.PrintLast Go.Proofs.YtajhfpeijagpnaaW.PrintMore
attribute [local go_sem] max2_int min2_int max_two min_two max_three min_three max_four min_four   -- for this text's walks alone
set_option linter.unusedVariables false
set_option linter.unusedSimpArgs false
theorem zc5_5 {w : World} {g : Nat} {a0 a1 a2 a3 a4 : Value} {t : TypeId} (h : w.heap[g]? = some (.cells #[a0, a1, a2, a3, a4] t (0, 0))) : w.cell? ⟨g, 0, none⟩ = some a0 ∧ w.cell? ⟨g, 1, none⟩ = some a1 ∧ w.cell? ⟨g, 2, none⟩ = some a2 ∧ w.cell? ⟨g, 3, none⟩ = some a3 ∧ w.cell? ⟨g, 4, none⟩ = some a4 ∧ w.frozen? ⟨g, 0, none⟩ = false ∧ w.frozen? ⟨g, 1, none⟩ = false ∧ w.frozen? ⟨g, 2, none⟩ = false ∧ w.frozen? ⟨g, 3, none⟩ = false ∧ w.frozen? ⟨g, 4, none⟩ = false := ⟨(blk_cell h 0).trans rfl, (blk_cell h 1).trans rfl, (blk_cell h 2).trans rfl, (blk_cell h 3).trans rfl, (blk_cell h 4).trans rfl, blk_frozen h 0, blk_frozen h 1, blk_frozen h 2, blk_frozen h 3, blk_frozen h 4⟩
theorem zR5 {p q : Prop} (x : q) (h : q → p := by intro h; (with_reducible repeat (first | apply Kd.R_alloc | apply Kd.R_drewN | apply Kd.R_drew)); exact h) : p := h x
theorem zK5 {p q : Prop} (x : q) (h : q → p := by intro h; (with_reducible repeat (first | refine blk_drewN ?_ _ | refine blk_drew ?_ | refine blk_alloc ?_ _)); exact h) : p := h x
theorem zJ5 {p q : Prop} (x : q) (h : q → p := by intro h; (with_reducible repeat (first | refine blk_drewN ?_ _ | refine blk_drew ?_ )); exact h) : p := h x
theorem zA5 {p : Prop} [Decidable p] (h : decide p = true := by first | (with_reducible assumption) | assumption) : p := of_decide_eq_true h
theorem zT5 {p : Prop} (h : p := by (try simp only [List.map_toArray, List.map_cons, List.map_nil]); first | done | rfl | (simp only [List.length_drop, List.length_take]; rfl)) : p := h
theorem zC5 {p q : Prop} (x : q) (h : q → p := by intro h; repeat (first | exact h | (with_reducible refine Kd.C_alloc ?_ _) | (with_reducible refine Kd.C_drewN ?_ _) | (with_reducible refine Kd.C_drew ?_))) : p := h x
theorem zb5 {W w w1 : World} {g : Nat} {o : Obj} (x : W.heap[g]? = some o) (hb : Below w.heap.size w w1) (h : W.heap[g]? = some o → w.heap[g]? = some o := by intro h; (with_reducible repeat (first | refine blk_drewN ?_ _ | refine blk_drew ?_ | refine blk_alloc ?_ _)); exact h) : w1.heap[g]? = some o := blk_below (h x) hb
theorem zg5 {W w w1 : World} {g : Nat} {o : Obj} {row : Option Nat} (x : W.heap[g]? = some o) (hg : w.grownBy w1 row) (hne : some g ≠ row) (h : W.heap[g]? = some o → w.heap[g]? = some o := by intro h; (with_reducible repeat (first | refine blk_drewN ?_ _ | refine blk_drew ?_ | refine blk_alloc ?_ _)); exact h) : w1.heap[g]? = some o := blk_grown (h x) hg hne
theorem zn5 {W w : World} {g g' : Nat} {o : Obj} (x : W.heap[g]? = some o) (hg : g' = w.heap.size) (h : W.heap[g]? = some o → w.heap[g]? = some o := by intro h; (with_reducible repeat (first | refine blk_drewN ?_ _ | refine blk_drew ?_ | refine blk_alloc ?_ _)); exact h) : g ≠ g' := by rw [hg]; exact Nat.ne_of_lt (blk_lt (h x))
theorem zm5 {W w : World} {g g' : Nat} {o : Obj} (x : W.heap[g]? = some o) (hg : g' = w.heap.size) (h : W.heap[g]? = some o → w.heap[g]? = some o := by intro h; (with_reducible repeat (first | refine blk_drewN ?_ _ | refine blk_drew ?_ | refine blk_alloc ?_ _)); exact h) : g' ≠ g := by rw [hg]; exact Nat.ne_of_gt (blk_lt (h x))
theorem zP5 {p q : Prop} (x : q) (h : q → p := by intro h; (with_reducible repeat (first | refine blk_drewN ?_ _ | refine blk_drew ?_ | refine blk_alloc ?_ _)); exact h) : p := h x
theorem zE5 {p : Prop} (h : p := by first | rfl | (simp [errW_none, errW_some] <;> rfl) | (simp [*, errW_none, errW_some] <;> rfl)) : p := h
theorem zB5_0 {p : Prop} (h : p := by repeat (first | (with_reducible first | exact HB1.out | apply pw_below_drewN | apply below_drew1) | exact HB1.out)) : p := h
theorem zB5_1 {p : Prop} (h : p := by repeat (first | (with_reducible first | exact HB.out | apply below_alloc | apply pw_below_drewN | apply below_drew1) | exact HB.out)) : p := h
theorem zB5_2 {p : Prop} (h : p := by repeat (first | (with_reducible first | exact HB.out | apply below_alloc | apply pw_below_drewN | apply below_drew1 | refine below_set ?_ GE264.out) | exact HB.out)) : p := h
theorem zB5_3 {p : Prop} (h : p := by repeat (first | (with_reducible first | exact HB.out | apply below_alloc | apply pw_below_drewN | apply below_drew1 | refine below_set ?_ GE264.out | refine below_set ?_ GE266.out) | exact HB.out)) : p := h
theorem zB5_4 {p : Prop} (h : p := by repeat (first | (with_reducible first | exact HB.out | apply below_alloc | apply pw_below_drewN | apply below_drew1 | refine below_set ?_ GE277.out) | exact HB.out)) : p := h

attribute [local go_sem high] eqA66
/-! ### impl_InsOk: function 93 -/
def placeOff (c : Int) : Nat := if c = 82 then 1 else if c = 65 then 2 else if c = 66 then 3 else 4
set_option maxHeartbeats 400000 in
set_option maxRecDepth 100000 in
theorem place_calls (g : Nat) (c : Int) (w : World) :
    Calls Try.prog 115 #[.pointer (some ⟨g, 0, none⟩), .int .u8 c] w fun e w' => e = .returned (.pointer (some ⟨g, placeOff c, none⟩)) ∧ w' = w := by
  by_cases c1 : c = 82
  · have e1 : (c == 82) = true := beq_iff_eq.mpr c1
    have ho : placeOff c = 1 := by simp [placeOff, c1]
    have Ho := Aside0.mk ho
    clear c1 ho
    go_enter Try.func115, Try.ntmps115
    go_wp2
    go_ret
    exact ⟨congrArg (fun o => Ending.returned (Value.pointer (some ⟨g, o, none⟩))) Ho.out.symm, rfl⟩
  have e1 : (c == 82) = false := beq_eq_false_iff_ne.mpr c1
  by_cases c2 : c = 65
  · have e2 : (c == 65) = true := beq_iff_eq.mpr c2
    have ho : placeOff c = 2 := by simp [placeOff, c2]
    have Ho := Aside0.mk ho
    clear c1 c2 ho
    go_enter Try.func115, Try.ntmps115
    go_wp2
    go_ret
    exact ⟨congrArg (fun o => Ending.returned (Value.pointer (some ⟨g, o, none⟩))) Ho.out.symm, rfl⟩
  have e2 : (c == 65) = false := beq_eq_false_iff_ne.mpr c2
  by_cases c3 : c = 66
  · have e3 : (c == 66) = true := beq_iff_eq.mpr c3
    have ho : placeOff c = 3 := by simp [placeOff, c3]
    have Ho := Aside0.mk ho
    clear c1 c2 c3 ho
    go_enter Try.func115, Try.ntmps115
    go_wp2
    go_ret
    exact ⟨congrArg (fun o => Ending.returned (Value.pointer (some ⟨g, o, none⟩))) Ho.out.symm, rfl⟩
  have e3 : (c == 66) = false := beq_eq_false_iff_ne.mpr c3
  have ho : placeOff c = 4 := by simp [placeOff, c1, c2, c3]
  have Ho := Aside0.mk ho
  clear c1 c2 c3 ho
  go_enter Try.func115, Try.ntmps115
  go_wp2
  go_ret
  exact ⟨congrArg (fun o => Ending.returned (Value.pointer (some ⟨g, o, none⟩))) Ho.out.symm, rfl⟩

/-- The five numbers, one of them put. -/
def insPut (c : Int) (x s : Int × Int × Int × Int × Int) : Int × Int × Int × Int × Int :=
  if c = 82 then (s.1, x.2.1, s.2.2.1, s.2.2.2.1, s.2.2.2.2) else if c = 65 then (s.1, s.2.1, x.2.2.1, s.2.2.2.1, s.2.2.2.2) else if c = 66 then (s.1, s.2.1, s.2.2.1, x.2.2.2.1, s.2.2.2.2) else (s.1, s.2.1, s.2.2.1, s.2.2.2.1, x.2.2.2.2)
def insCells (s : Int × Int × Int × Int × Int) : Array Value := #[.int .i64 s.1, .int .i64 s.2.1, .int .i64 s.2.2.1, .int .i64 s.2.2.2.1, .int .i64 s.2.2.2.2]
def insPick (x : Int × Int × Int × Int × Int) (c : Int) : Int := if c = 82 then x.2.1 else if c = 65 then x.2.2.1 else if c = 66 then x.2.2.2.1 else x.2.2.2.2
theorem insCells_get (x : Int × Int × Int × Int × Int) (c : Int) : (insCells x)[placeOff c]? = some (.int .i64 (insPick x c)) := by
  unfold insCells placeOff insPick; split <;> (try split) <;> (try split) <;> rfl
theorem insCells_put (x s : Int × Int × Int × Int × Int) (c : Int) : (insCells s).setIfInBounds (placeOff c) (.int .i64 (insPick x c)) = insCells (insPut c x s) := by
  unfold insCells placeOff insPick insPut; split <;> (try split) <;> (try split) <;> rfl
def insFold (s : ByteArray) (x : Int × Int × Int × Int × Int) (n : Nat) : Int × Int × Int × Int × Int := (List.range n).foldl (fun a (i : Nat) => insPut (bt s (i : Int)) x a) (x.1, 0, 0, 0, 0)

theorem insFold_succ (s : ByteArray) (x : Int × Int × Int × Int × Int) (n : Nat) : insFold s x (n + 1) = insPut (bt s (n : Int)) x (insFold s x n) := by
  unfold insFold; rw [List.range_succ, List.foldl_append]; rfl
set_option maxHeartbeats 4000000 in
set_option maxRecDepth 100000 in
theorem insOk_calls (k : Nat) (x0 x1 x2 x3 x4 : Int) (s : ByteArray) (ok : Bool) (w : World) (hs : s.size ≤ 4) (hf : impl_form.f k x0 = some (s, ok)) (y0 y1 y2 y3 y4 : Int) (hy : insFold s (x0, x1, x2, x3, x4) s.size = (y0, y1, y2, y3, y4)) (b1 b2 b3 b4 : Bool) (h1 : impl_from.f x1 0 3 = some b1) (h2 : impl_from.f x2 0 3 = some b2) (h3 : impl_from.f x3 0 3 = some b3) (h4 : impl_from.f x4 0 63 = some b4) :
    Calls Try.prog 93 #[.agg #[.int .i64 x0, .int .i64 x1, .int .i64 x2, .int .i64 x3, .int .i64 x4]] w fun e w' => e = .returned (.bool (ok && ((y0 == x0 && (y1 == x1 && (y2 == x2 && (y3 == x3 && (y4 == x4))))) && (b1 && (b2 && (b3 && b4)))))) ∧ Below w.heap.size w w' := by
  have hu66 := Try.underlying65
  have HF := Aside0.mk hf
  have HY := Aside0.mk hy
  have F1 := Aside0.mk h1
  have F2 := Aside0.mk h2
  have F3 := Aside0.mk h3
  have F4 := Aside0.mk h4
  clear hf hy h1 h2 h3 h4
  have HB := Aside0.mk (Below.refl w.heap.size w)
  go_enter Try.func93, Try.ntmps93
  go_wp2_with (first
    | ((with_reducible refine gate_dst (N := 1) rfl ?_); refine box_event ?hg (N := 1) ?hd (cs := #[.int .i64 x0, .int .i64 x1, .int .i64 x2, .int .i64 x3, .int .i64 x4]) (t := 66) ?hr ?_; (case hd => rfl); (case hg => rfl); (case hr => first | (go_simp; done) | (go_simp; rfl)); intro g1 hg w1 hbox hb; have BK1 := Aside0.mk hbox; have HB1 := Aside0.mk (below_step HB.out hb); have GE1 := Aside0.mk (by rw [hg]; exact Nat.le_refl _ : w.heap.size ≤ g1); clear hb hbox hg; have hcz0 : w1.cell? ⟨g1, 0, none⟩ = some (.int .i64 x0) := (blk_cell BK1.out 0).trans rfl)
    | ((with_reducible refine gate_dst (N := 5) rfl ?_); refine box_event ?hg (N := 5) ?hd (cs := #[.int .i64 0, .int .i64 0, .int .i64 0, .int .i64 0, .int .i64 0]) (t := 66) ?hr ?_; (case hd => rfl); (case hg => rfl); (case hr => first | (go_simp; done) | (go_simp; rfl)); intro g2 hg w2 hbox hb; have hne := Aside0.mk (by rw [hg]; exact Nat.ne_of_lt (blk_lt (blk_drewN BK1.out _)) : g1 ≠ g2); have BK2 := Aside0.mk hbox; have HB2 := Aside0.mk (below_step (zB5_0) hb); have BK1' := Aside0.mk (blk_below (zJ5 BK1.out) hb); have GE2 := Aside0.mk (by rw [hg]; exact below_size (zB5_0) : w.heap.size ≤ g2); clear hb hbox hg BK1 HB1 HB; have hcy0 := (blk_cell BK2.out 0).trans rfl; have hcy1 := (blk_cell BK2.out 1).trans rfl; have hcy2 := (blk_cell BK2.out 2).trans rfl; have hcy3 := (blk_cell BK2.out 3).trans rfl; have hcy4 := (blk_cell BK2.out 4).trans rfl; have hfy0 := blk_frozen BK2.out 0; have hfy1 := blk_frozen BK2.out 1; have hfy2 := blk_frozen BK2.out 2; have hfy3 := blk_frozen BK2.out 3; have hfy4 := blk_frozen BK2.out 4)
    | (go_at_call 114; refine (impl_form.calls k x0 s ok _ HF.out).mono ?_; rintro e w' ⟨rfl, ⟨nd, rfl⟩⟩))
  clear hcz0 hcy0 hcy1 hcy2 hcy3 hcy4 hfy0 hfy1 hfy2 hfy3 hfy4
  go_loopw [18] (fun v wr => ∃ i : Nat, Aside0 (i ≤ s.size) ∧ v = .int .i64 i ∧ Aside0 (wr.heap[g1]? = some (.cells (insCells (x0, x1, x2, x3, x4)) 66 (0, 0))) ∧ Aside0 (wr.heap[g2]? = some (.cells (insCells (insFold s (x0, x1, x2, x3, x4) i)) 66 (0, 0))) ∧ Aside0 (Below w.heap.size w wr)) (fun v _ => s.size - (intOf v).toNat)
  case atStart =>
    refine ⟨0, ⟨Nat.zero_le _⟩, rfl, ⟨?_⟩, ⟨?_⟩, ⟨?_⟩⟩
    · refine blk_far (blk_far (blk_far (blk_far (blk_far BK1'.out ?_ _) ?_ _) ?_ _) ?_ _) ?_ _ <;> exact hne.out
    · exact blk_set (blk_set (blk_set (blk_set (blk_set BK2.out 0 _) 1 _) 2 _) 3 _) 4 _
    · exact below_set (below_set (below_set (below_set (below_set HB2.out GE2.out) GE2.out) GE2.out) GE2.out) GE2.out
  case round =>
    obtain ⟨i, hi, rfl, BK1, BK2, HB⟩ := hrel
    by_cases hlt : i < s.size
    · have hbt : bt s (i : Int) = ((s[i].toNat : Nat) : Int) := (bt_at s (i : Int) (by simpa using hlt)).symm
      have HBT := Aside0.mk hbt
      clear hbt
      have hld : wr.cell? ⟨g1, placeOff ((s[i].toNat : Nat) : Int), none⟩ = some (.int .i64 (insPick (x0, x1, x2, x3, x4) ((s[i].toNat : Nat) : Int))) := (blk_cell BK1.out _).trans (insCells_get _ _)
      have hst : wr.cell? ⟨g2, placeOff ((s[i].toNat : Nat) : Int), none⟩ = some (.int .i64 (insPick (insFold s (x0, x1, x2, x3, x4) i) ((s[i].toNat : Nat) : Int))) := (blk_cell BK2.out _).trans (insCells_get _ _)
      have hfz := blk_frozen BK2.out (placeOff ((s[i].toNat : Nat) : Int))
      have H1 := Aside0.mk hst
      have H2 := Aside0.mk hfz
      clear hst hfz
      go_wp2_with fail
      go_still_tail 11, (by kernel_rfl)
      still_call (place_calls _ _ _)
      repeat still_step
      still_call (place_calls _ _ _)
      repeat still_step
      refine wpStill_nil ?_
      change wpList _ _ _ _ _ wr.drew
      have hst := H1.out
      have hfz := H2.out
      go_wp2
      go_roundw
      case rel =>
        refine ⟨i + 1, ⟨hlt⟩, by go_num, ⟨?_⟩, ⟨?_⟩, ⟨?_⟩⟩
        · exact blk_far (blk_drew BK1.out) hne.out _
        · rw [insFold_succ, HBT.out, ← insCells_put]; exact blk_set (blk_drew BK2.out) _ _
        · exact below_set (below_drew1 HB.out) GE2.out
      case measure => simp [intOf]; omega
    have HN := Aside0.mk hlt
    have hi' : i = s.size := by have := hi.out; omega
    subst hi'
    have BK2' : wr.heap[g2]? = some (.cells #[.int .i64 y0, .int .i64 y1, .int .i64 y2, .int .i64 y3, .int .i64 y4] 66 (0, 0)) := by have h_ := BK2.out; rw [HY.out] at h_; exact h_
    clear BK2
    have hcx0 : wr.cell? ⟨g1, 0, none⟩ = some (.int .i64 x0) := (blk_cell BK1.out 0).trans rfl
    have hcx1 : wr.cell? ⟨g1, 1, none⟩ = some (.int .i64 x1) := (blk_cell BK1.out 1).trans rfl
    have hcx2 : wr.cell? ⟨g1, 2, none⟩ = some (.int .i64 x2) := (blk_cell BK1.out 2).trans rfl
    have hcx3 : wr.cell? ⟨g1, 3, none⟩ = some (.int .i64 x3) := (blk_cell BK1.out 3).trans rfl
    have hcx4 : wr.cell? ⟨g1, 4, none⟩ = some (.int .i64 x4) := (blk_cell BK1.out 4).trans rfl
    have hcy0 : wr.cell? ⟨g2, 0, none⟩ = some (.int .i64 y0) := (blk_cell BK2' 0).trans rfl
    have hcy1 : wr.cell? ⟨g2, 1, none⟩ = some (.int .i64 y1) := (blk_cell BK2' 1).trans rfl
    have hcy2 : wr.cell? ⟨g2, 2, none⟩ = some (.int .i64 y2) := (blk_cell BK2' 2).trans rfl
    have hcy3 : wr.cell? ⟨g2, 3, none⟩ = some (.int .i64 y3) := (blk_cell BK2' 3).trans rfl
    have hcy4 : wr.cell? ⟨g2, 4, none⟩ = some (.int .i64 y4) := (blk_cell BK2' 4).trans rfl
    clear BK1 BK2'
    cases ok
    · go_wp2_with (first | (go_at_call 70; with_reducible refine (impl_from.calls x1 0 3 _ _ F1.out).mono ?_; rintro e w' ⟨rfl, ⟨nd, rfl⟩⟩) | (go_at_call 70; with_reducible refine (impl_from.calls x2 0 3 _ _ F2.out).mono ?_; rintro e w' ⟨rfl, ⟨nd, rfl⟩⟩) | (go_at_call 70; with_reducible refine (impl_from.calls x3 0 3 _ _ F3.out).mono ?_; rintro e w' ⟨rfl, ⟨nd, rfl⟩⟩) | (go_at_call 70; with_reducible refine (impl_from.calls x4 0 63 _ _ F4.out).mono ?_; rintro e w' ⟨rfl, ⟨nd, rfl⟩⟩))
      go_ret
      exact ⟨rfl, by repeat (first | exact HB.out | apply pw_below_drewN | apply below_drew1)⟩
    generalize hE : (y0 == x0 && (y1 == x1 && (y2 == x2 && (y3 == x3 && (y4 == x4))))) = E
    cases E
    · go_wp2_with (first | (go_at_call 70; with_reducible refine (impl_from.calls x1 0 3 _ _ F1.out).mono ?_; rintro e w' ⟨rfl, ⟨nd, rfl⟩⟩) | (go_at_call 70; with_reducible refine (impl_from.calls x2 0 3 _ _ F2.out).mono ?_; rintro e w' ⟨rfl, ⟨nd, rfl⟩⟩) | (go_at_call 70; with_reducible refine (impl_from.calls x3 0 3 _ _ F3.out).mono ?_; rintro e w' ⟨rfl, ⟨nd, rfl⟩⟩) | (go_at_call 70; with_reducible refine (impl_from.calls x4 0 63 _ _ F4.out).mono ?_; rintro e w' ⟨rfl, ⟨nd, rfl⟩⟩))
      go_ret
      exact ⟨by rw [hE]; rfl, by repeat (first | exact HB.out | apply pw_below_drewN | apply below_drew1)⟩
    cases b1
    · go_wp2_with (first | (go_at_call 70; with_reducible refine (impl_from.calls x1 0 3 _ _ F1.out).mono ?_; rintro e w' ⟨rfl, ⟨nd, rfl⟩⟩) | (go_at_call 70; with_reducible refine (impl_from.calls x2 0 3 _ _ F2.out).mono ?_; rintro e w' ⟨rfl, ⟨nd, rfl⟩⟩) | (go_at_call 70; with_reducible refine (impl_from.calls x3 0 3 _ _ F3.out).mono ?_; rintro e w' ⟨rfl, ⟨nd, rfl⟩⟩) | (go_at_call 70; with_reducible refine (impl_from.calls x4 0 63 _ _ F4.out).mono ?_; rintro e w' ⟨rfl, ⟨nd, rfl⟩⟩))
      go_ret
      exact ⟨by rw [hE]; rfl, by repeat (first | exact HB.out | apply pw_below_drewN | apply below_drew1)⟩
    cases b2
    · go_wp2_with (first | (go_at_call 70; with_reducible refine (impl_from.calls x1 0 3 _ _ F1.out).mono ?_; rintro e w' ⟨rfl, ⟨nd, rfl⟩⟩) | (go_at_call 70; with_reducible refine (impl_from.calls x2 0 3 _ _ F2.out).mono ?_; rintro e w' ⟨rfl, ⟨nd, rfl⟩⟩) | (go_at_call 70; with_reducible refine (impl_from.calls x3 0 3 _ _ F3.out).mono ?_; rintro e w' ⟨rfl, ⟨nd, rfl⟩⟩) | (go_at_call 70; with_reducible refine (impl_from.calls x4 0 63 _ _ F4.out).mono ?_; rintro e w' ⟨rfl, ⟨nd, rfl⟩⟩))
      go_ret
      exact ⟨by rw [hE]; rfl, by repeat (first | exact HB.out | apply pw_below_drewN | apply below_drew1)⟩
    cases b3
    · go_wp2_with (first | (go_at_call 70; with_reducible refine (impl_from.calls x1 0 3 _ _ F1.out).mono ?_; rintro e w' ⟨rfl, ⟨nd, rfl⟩⟩) | (go_at_call 70; with_reducible refine (impl_from.calls x2 0 3 _ _ F2.out).mono ?_; rintro e w' ⟨rfl, ⟨nd, rfl⟩⟩) | (go_at_call 70; with_reducible refine (impl_from.calls x3 0 3 _ _ F3.out).mono ?_; rintro e w' ⟨rfl, ⟨nd, rfl⟩⟩) | (go_at_call 70; with_reducible refine (impl_from.calls x4 0 63 _ _ F4.out).mono ?_; rintro e w' ⟨rfl, ⟨nd, rfl⟩⟩))
      go_ret
      exact ⟨by rw [hE]; rfl, by repeat (first | exact HB.out | apply pw_below_drewN | apply below_drew1)⟩
    go_wp2_with (first | (go_at_call 70; with_reducible refine (impl_from.calls x1 0 3 _ _ F1.out).mono ?_; rintro e w' ⟨rfl, ⟨nd, rfl⟩⟩) | (go_at_call 70; with_reducible refine (impl_from.calls x2 0 3 _ _ F2.out).mono ?_; rintro e w' ⟨rfl, ⟨nd, rfl⟩⟩) | (go_at_call 70; with_reducible refine (impl_from.calls x3 0 3 _ _ F3.out).mono ?_; rintro e w' ⟨rfl, ⟨nd, rfl⟩⟩) | (go_at_call 70; with_reducible refine (impl_from.calls x4 0 63 _ _ F4.out).mono ?_; rintro e w' ⟨rfl, ⟨nd, rfl⟩⟩))
    go_ret
    exact ⟨by rw [hE]; rfl, by repeat (first | exact HB.out | apply pw_below_drewN | apply below_drew1)⟩
/-- Is it an Ins: what an Op does not have is 0; the others in range. -/
def insOkB (o r a b n : Int) : Bool :=
  (if o = 1 then decide (a = 0) && decide (b = 0) else if o = 2 then decide (n = 0) else if o = 3 then decide (b = 0) else if o = 4 then decide (b = 0) else if o = 5 then decide (r = 0) else if o = 6 then true
   else if o = 7 then decide (r = 0) && decide (b = 0) else if o = 8 then decide (r = 0) && (decide (a = 0) && decide (b = 0)) else if o = 9 then decide (r = 0) && (decide (a = 0) && (decide (b = 0) && decide (n = 0))) else if o = 10 then decide (n = 0) else false)
  && (decide (0 ≤ r ∧ r ≤ 3) && (decide (0 ≤ a ∧ a ≤ 3) && (decide (0 ≤ b ∧ b ≤ 3) && decide (0 ≤ n ∧ n ≤ 63))))
def impl_InsOk.f (a0_0 a0_1 a0_2 a0_3 a0_4 : Int) : Option Bool := some (insOkB a0_0 a0_1 a0_2 a0_3 a0_4)
theorem insFrom (x lo hi : Int) : impl_from.f x lo hi = some (decide (lo ≤ x ∧ x ≤ hi)) := by
  unfold impl_from.f
  by_cases h : x ≥ lo
  · rw [if_pos h]; have h' : lo ≤ x := h; simp [h']
  rw [if_neg h]; have h' : ¬ lo ≤ x := h; simp [h']
theorem insBeq (x y : Int) : (x == y) = decide (y = x) := by
  by_cases h : x = y
  · subst h; simp
  have h' : ¬ y = x := fun e => h e.symm
  simp [h, h']
theorem insForm (x0 x1 x2 x3 x4 : Int) : ∃ (s : ByteArray) (ok : Bool) (y0 y1 y2 y3 y4 : Int), s.size ≤ 4 ∧ impl_form.f 3 x0 = some (s, ok) ∧ insFold s (x0, x1, x2, x3, x4) s.size = (y0, y1, y2, y3, y4) ∧
    (ok && ((y0 == x0 && (y1 == x1 && (y2 == x2 && (y3 == x3 && (y4 == x4))))) && (decide (0 ≤ x1 ∧ x1 ≤ 3) && (decide (0 ≤ x2 ∧ x2 ≤ 3) && (decide (0 ≤ x3 ∧ x3 ≤ 3) && decide (0 ≤ x4 ∧ x4 ≤ 63)))))) = insOkB x0 x1 x2 x3 x4 := by
  by_cases h1 : x0 = 1
  · subst h1; exact ⟨⟨#[82, 78]⟩, true, 1, x1, 0, 0, x4, by decide, rfl, rfl, by simp [insOkB, insBeq, Bool.and_assoc]⟩
  by_cases h2 : x0 = 2
  · subst h2; exact ⟨⟨#[82, 65, 66]⟩, true, 2, x1, x2, x3, 0, by decide, rfl, rfl, by simp [insOkB, insBeq, Bool.and_assoc]⟩
  by_cases h3 : x0 = 3
  · subst h3; exact ⟨⟨#[82, 65, 78]⟩, true, 3, x1, x2, 0, x4, by decide, rfl, rfl, by simp [insOkB, insBeq, Bool.and_assoc]⟩
  by_cases h4 : x0 = 4
  · subst h4; exact ⟨⟨#[82, 65, 78]⟩, true, 4, x1, x2, 0, x4, by decide, rfl, rfl, by simp [insOkB, insBeq, Bool.and_assoc]⟩
  by_cases h5 : x0 = 5
  · subst h5; exact ⟨⟨#[65, 66, 78]⟩, true, 5, 0, x2, x3, x4, by decide, rfl, rfl, by simp [insOkB, insBeq, Bool.and_assoc]⟩
  by_cases h6 : x0 = 6
  · subst h6; exact ⟨⟨#[82, 65, 66, 78]⟩, true, 6, x1, x2, x3, x4, by decide, rfl, rfl, by simp [insOkB, insBeq, Bool.and_assoc]⟩
  by_cases h7 : x0 = 7
  · subst h7; exact ⟨⟨#[65, 78]⟩, true, 7, 0, x2, 0, x4, by decide, rfl, rfl, by simp [insOkB, insBeq, Bool.and_assoc]⟩
  by_cases h8 : x0 = 8
  · subst h8; exact ⟨⟨#[78]⟩, true, 8, 0, 0, 0, x4, by decide, rfl, rfl, by simp [insOkB, insBeq, Bool.and_assoc]⟩
  by_cases h9 : x0 = 9
  · subst h9; exact ⟨⟨#[]⟩, true, 9, 0, 0, 0, 0, by decide, rfl, rfl, by simp [insOkB, insBeq, Bool.and_assoc]⟩
  by_cases h10 : x0 = 10
  · subst h10; exact ⟨⟨#[82, 65, 66]⟩, true, 10, x1, x2, x3, 0, by decide, rfl, rfl, by simp [insOkB, insBeq, Bool.and_assoc]⟩
  exact ⟨⟨#[]⟩, false, x0, 0, 0, 0, 0, by decide, by simp [impl_form.f, impl_form.j0, impl_form.j1, h1, h2, h3, h4, h5, h6, h7, h8, h9, h10], rfl, by simp [insOkB, h1, h2, h3, h4, h5, h6, h7, h8, h9, h10]⟩
theorem impl_InsOk.calls (a0_0 : Int) (a0_1 : Int) (a0_2 : Int) (a0_3 : Int) (a0_4 : Int) (r : Bool) (w : World) (h : impl_InsOk.f a0_0 a0_1 a0_2 a0_3 a0_4 = some r) :
    Calls Try.prog 93 #[.agg #[.int .i64 a0_0, .int .i64 a0_1, .int .i64 a0_2, .int .i64 a0_3, .int .i64 a0_4]] w fun e w' => e = .returned (.bool r) ∧ Below w.heap.size w w' := by
  obtain ⟨s, ok, y0, y1, y2, y3, y4, hs, hf, hy, hb⟩ := insForm a0_0 a0_1 a0_2 a0_3 a0_4
  obtain rfl := Option.some.inj h
  rw [← hb]
  exact insOk_calls 3 _ _ _ _ _ s ok w hs hf y0 y1 y2 y3 y4 hy _ _ _ _ (insFrom _ _ _) (insFrom _ _ _) (insFrom _ _ _) (insFrom _ _ _)

/-! ### impl_Decode: function 57 -/
def impl_Decode.f (a0 : Int) : Option (Int × Int × Int × Int × Int × Bool) := (impl_isWord.f a0).bind fun t265 => (if t265 = true then ((impl_InsOk.f (Int.tmod a0 16) (Int.tmod (wrap64 (Int.tdiv a0 16)) 4) (Int.tmod (wrap64 (Int.tdiv a0 64)) 4) (Int.tmod (wrap64 (Int.tdiv a0 256)) 4) (wrap64 (Int.tdiv a0 1024))).bind fun t267 => (if t267 = true then (some (Int.tmod a0 16, Int.tmod (wrap64 (Int.tdiv a0 16)) 4, Int.tmod (wrap64 (Int.tdiv a0 64)) 4, Int.tmod (wrap64 (Int.tdiv a0 256)) 4, wrap64 (Int.tdiv a0 1024), true)) else (some (0, 0, 0, 0, 0, false)))) else (some (0, 0, 0, 0, 0, false)))
set_option maxHeartbeats 8000000 in
set_option maxRecDepth 100000 in
theorem impl_Decode.calls (a0 : Int) (r1 : Int) (r2 : Int) (r3 : Int) (r4 : Int) (r5 : Int) (r6 : Bool) (w : World) (h : impl_Decode.f a0 = some (r1, r2, r3, r4, r5, r6)) :
    Calls Try.prog 57 #[.int .i64 a0] w fun e w' => e = .returned (.tuple #[.agg #[.int .i64 r1, .int .i64 r2, .int .i64 r3, .int .i64 r4, .int .i64 r5], .bool r6]) ∧ Below w.heap.size w w' := by
  have hu66 := Try.underlying66
  have HB := Aside0.mk (Below.refl w.heap.size w)
  have H : ((impl_isWord.f a0).bind fun t265 => (if t265 = true then ((impl_InsOk.f (Int.tmod a0 16) (Int.tmod (wrap64 (Int.tdiv a0 16)) 4) (Int.tmod (wrap64 (Int.tdiv a0 64)) 4) (Int.tmod (wrap64 (Int.tdiv a0 256)) 4) (wrap64 (Int.tdiv a0 1024))).bind fun t267 => (if t267 = true then (some (Int.tmod a0 16, Int.tmod (wrap64 (Int.tdiv a0 16)) 4, Int.tmod (wrap64 (Int.tdiv a0 64)) 4, Int.tmod (wrap64 (Int.tdiv a0 256)) 4, wrap64 (Int.tdiv a0 1024), true)) else (some (0, 0, 0, 0, 0, false)))) else (some (0, 0, 0, 0, 0, false)))) = some (r1, r2, r3, r4, r5, r6) := h
  clear h
  replace H := Option.bind_eq_some_iff.mp H
  obtain ⟨t265, A20, H⟩ := H
  replace H : (if t265 = true then ((impl_InsOk.f (Int.tmod a0 16) (Int.tmod (wrap64 (Int.tdiv a0 16)) 4) (Int.tmod (wrap64 (Int.tdiv a0 64)) 4) (Int.tmod (wrap64 (Int.tdiv a0 256)) 4) (wrap64 (Int.tdiv a0 1024))).bind fun t267 => (if t267 = true then (some (Int.tmod a0 16, Int.tmod (wrap64 (Int.tdiv a0 16)) 4, Int.tmod (wrap64 (Int.tdiv a0 64)) 4, Int.tmod (wrap64 (Int.tdiv a0 256)) 4, wrap64 (Int.tdiv a0 1024), true)) else (some (0, 0, 0, 0, 0, false)))) else (some (0, 0, 0, 0, 0, false))) = some (r1, r2, r3, r4, r5, r6) := H
  have A2 := Aside0.mk A20
  clear A20
  by_cases c3 : t265 = true
  rotate_left
  · replace c3 := Bool.eq_false_iff.mpr c3
    subst c3
    have H1 : (some (0, 0, 0, 0, 0, false)) = some (r1, r2, r3, r4, r5, r6) := by rw [if_neg (show ¬ (false = true) by decide)] at H; exact H
    clear H
    have H := H1
    clear H1
    simp only [Option.some.injEq, Prod.mk.injEq] at H
    obtain ⟨rfl, rfl, rfl, rfl, rfl, rfl⟩ := H
    go_enter Try.func57, Try.ntmps57
    go_wp2_with (first | ((with_reducible refine gate_dst (N := 2) rfl ?_); refine box_event ?hg (N := 2) ?hd (cs := #[.int .i64 0, .int .i64 0, .int .i64 0, .int .i64 0, .int .i64 0]) (t := 66) ?hr ?_; (case hd => rfl); (case hg => rfl); (case hr => first | (go_simp; done) | (go_simp; rfl)); intro gb264 hg w19 hbox hb; have n0_ := Aside0.mk (below_step (zB5_1) hb); have n1_ := Aside0.mk (hbox); have n2_ := Aside0.mk ((by rw [hg]; exact (below_size (zB5_1)) : w.heap.size ≤ gb264)); have n3_ := Aside0.mk ((by rw [hg]; exact (below_size (zB5_1)) : w.heap.size ≤ gb264)); clear HB; have HB := n0_; have BK264 := n1_; have GW264 := n2_; have GE264 := n3_; clear n0_ n1_ n2_ n3_; clear hb hbox hg) | ((with_reducible refine gate_callee (f := 92) rfl ?_); refine goesL_ (some 6) rfl rfl Try.func92 (by kernel_rfl) rfl #[.int .i64 a0] rfl zT5 ?_; (with_reducible refine (impl_isWord.calls a0 false _ A2.out).mono ?_); rintro e w' ⟨rfl, ⟨nd, rfl⟩⟩; refine ⟨_, rfl, ?_⟩; (try (rw [drewN_self w19]; generalize hq_ : World.drewN w19 _ = w19; have n0_ : Aside0 (w19.heap[gb264]? = some (.cells #[.int .i64 0, .int .i64 0, .int .i64 0, .int .i64 0, .int .i64 0] 66 (0, 0))) := ⟨by rw [← hq_]; exact (zK5 BK264.out)⟩; have n1_ : Aside0 (Below w.heap.size w w19) := ⟨by rw [← hq_]; exact (zB5_2)⟩; clear BK264 HB hq_; have BK264 := n0_; have HB := n1_; clear n0_ n1_)); obtain ⟨hcz20_0, hcz20_1, hcz20_2, hcz20_3, hcz20_4, hfz20_0, hfz20_1, hfz20_2, hfz20_3, hfz20_4⟩ := zc5_5 (w := w19) BK264.out))
    refine bodyPost_ret (results_ct rfl _ _ gb264 66 #[.int .i64 0, .int .i64 0, .int .i64 0, .int .i64 0, .int .i64 0] (0, 0) _ rfl (by refine zP5 ?_; refine blk_put (cs := #[.int .i64 0, .int .i64 0, .int .i64 0, .int .i64 0, .int .i64 0]) ?_ 4 _ rfl; refine zP5 ?_; refine blk_put (cs := #[.int .i64 0, .int .i64 0, .int .i64 0, .int .i64 0, .int .i64 0]) ?_ 3 _ rfl; refine zP5 ?_; refine blk_put (cs := #[.int .i64 0, .int .i64 0, .int .i64 0, .int .i64 0, .int .i64 0]) ?_ 2 _ rfl; refine zP5 ?_; refine blk_put (cs := #[.int .i64 0, .int .i64 0, .int .i64 0, .int .i64 0, .int .i64 0]) ?_ 1 _ rfl; refine zP5 ?_; refine blk_put (cs := #[.int .i64 0, .int .i64 0, .int .i64 0, .int .i64 0, .int .i64 0]) ?_ 0 _ rfl; refine zP5 ?_; exact BK264.out) Try.underlying66 rfl (by kernel_rfl)) rfl ?_
    exact ⟨zE5, zB5_2⟩
  subst c3
  have H1 : ((impl_InsOk.f (Int.tmod a0 16) (Int.tmod (wrap64 (Int.tdiv a0 16)) 4) (Int.tmod (wrap64 (Int.tdiv a0 64)) 4) (Int.tmod (wrap64 (Int.tdiv a0 256)) 4) (wrap64 (Int.tdiv a0 1024))).bind fun t267 => (if t267 = true then (some (Int.tmod a0 16, Int.tmod (wrap64 (Int.tdiv a0 16)) 4, Int.tmod (wrap64 (Int.tdiv a0 64)) 4, Int.tmod (wrap64 (Int.tdiv a0 256)) 4, wrap64 (Int.tdiv a0 1024), true)) else (some (0, 0, 0, 0, 0, false)))) = some (r1, r2, r3, r4, r5, r6) := by rw [if_pos rfl] at H; exact H
  clear H
  have H := H1
  clear H1
  replace H := Option.bind_eq_some_iff.mp H
  obtain ⟨t267, A40, H⟩ := H
  replace H : (if t267 = true then (some (Int.tmod a0 16, Int.tmod (wrap64 (Int.tdiv a0 16)) 4, Int.tmod (wrap64 (Int.tdiv a0 64)) 4, Int.tmod (wrap64 (Int.tdiv a0 256)) 4, wrap64 (Int.tdiv a0 1024), true)) else (some (0, 0, 0, 0, 0, false))) = some (r1, r2, r3, r4, r5, r6) := H
  have A4 := Aside0.mk A40
  clear A40
  by_cases c5 : t267 = true
  rotate_left
  · replace c5 := Bool.eq_false_iff.mpr c5
    subst c5
    have H1 : (some (0, 0, 0, 0, 0, false)) = some (r1, r2, r3, r4, r5, r6) := by rw [if_neg (show ¬ (false = true) by decide)] at H; exact H
    clear H
    have H := H1
    clear H1
    simp only [Option.some.injEq, Prod.mk.injEq] at H
    obtain ⟨rfl, rfl, rfl, rfl, rfl, rfl⟩ := H
    go_enter Try.func57, Try.ntmps57
    go_wp2_with (first | ((with_reducible refine gate_dst (N := 2) rfl ?_); refine box_event ?hg (N := 2) ?hd (cs := #[.int .i64 0, .int .i64 0, .int .i64 0, .int .i64 0, .int .i64 0]) (t := 66) ?hr ?_; (case hd => rfl); (case hg => rfl); (case hr => first | (go_simp; done) | (go_simp; rfl)); intro gb264 hg w13 hbox hb; have n0_ := Aside0.mk (below_step (zB5_1) hb); have n1_ := Aside0.mk (hbox); have n2_ := Aside0.mk ((by rw [hg]; exact (below_size (zB5_1)) : w.heap.size ≤ gb264)); have n3_ := Aside0.mk ((by rw [hg]; exact (below_size (zB5_1)) : w.heap.size ≤ gb264)); clear HB; have HB := n0_; have BK264 := n1_; have GW264 := n2_; have GE264 := n3_; clear n0_ n1_ n2_ n3_; clear hb hbox hg) | ((with_reducible refine gate_callee (f := 92) rfl ?_); refine goesL_ (some 6) rfl rfl Try.func92 (by kernel_rfl) rfl #[.int .i64 a0] rfl zT5 ?_; (with_reducible refine (impl_isWord.calls a0 true _ A2.out).mono ?_); rintro e w' ⟨rfl, ⟨nd, rfl⟩⟩; refine ⟨_, rfl, ?_⟩; (try (rw [drewN_self w13]; generalize hq_ : World.drewN w13 _ = w13; have n0_ : Aside0 (w13.heap[gb264]? = some (.cells #[.int .i64 0, .int .i64 0, .int .i64 0, .int .i64 0, .int .i64 0] 66 (0, 0))) := ⟨by rw [← hq_]; exact (zK5 BK264.out)⟩; have n1_ : Aside0 (Below w.heap.size w w13) := ⟨by rw [← hq_]; exact (zB5_2)⟩; clear BK264 HB hq_; have BK264 := n0_; have HB := n1_; clear n0_ n1_))) | ((with_reducible refine gate_dst (N := 4) rfl ?_); refine box_event ?hg (N := 4) ?hd (cs := #[.int .i64 0, .int .i64 0, .int .i64 0, .int .i64 0, .int .i64 0]) (t := 66) ?hr ?_; (case hd => rfl); (case hg => rfl); (case hr => first | (go_simp; done) | (go_simp; rfl)); intro gb266 hg w14 hbox hb; have n0_ := Aside0.mk (zb5 BK264.out hb); have n1_ := Aside0.mk (below_step (zB5_2) hb); have n2_ := Aside0.mk (hbox); have n3_ := Aside0.mk ((by rw [hg]; exact (below_size (zB5_2)) : w.heap.size ≤ gb266)); have n4_ := Aside0.mk ((by rw [hg]; exact (below_size (zB5_2)) : w.heap.size ≤ gb266)); have n5_ := Aside0.mk ((zn5 BK264.out hg : gb264 ≠ gb266)); have n6_ := Aside0.mk ((zm5 BK264.out hg : gb266 ≠ gb264)); clear BK264; clear HB; have BK264 := n0_; have HB := n1_; have BK266 := n2_; have GW266 := n3_; have GE266 := n4_; have NB264_266 := n5_; have NB266_264 := n6_; clear n0_ n1_ n2_ n3_ n4_ n5_ n6_; clear hb hbox hg; have hnb15 := NB266_264.out; have hnc15 := NB264_266.out; obtain ⟨hcz16_0, hcz16_1, hcz16_2, hcz16_3, hcz16_4, hfz16_0, hfz16_1, hfz16_2, hfz16_3, hfz16_4⟩ := zc5_5 (w := w14) BK266.out) | ((with_reducible refine gate_callee (f := 93) rfl ?_); refine goesL_ (some 24) rfl rfl Try.func93 (by kernel_rfl) rfl #[.agg #[.int .i64 (Int.tmod a0 16), .int .i64 (Int.tmod (wrap64 (Int.tdiv a0 16)) 4), .int .i64 (Int.tmod (wrap64 (Int.tdiv a0 64)) 4), .int .i64 (Int.tmod (wrap64 (Int.tdiv a0 256)) 4), .int .i64 (wrap64 (Int.tdiv a0 1024))]] rfl zT5 ?_; (with_reducible refine (impl_InsOk.calls (Int.tmod a0 16) (Int.tmod (wrap64 (Int.tdiv a0 16)) 4) (Int.tmod (wrap64 (Int.tdiv a0 64)) 4) (Int.tmod (wrap64 (Int.tdiv a0 256)) 4) (wrap64 (Int.tdiv a0 1024)) false _ A4.out).mono ?_); rintro e w17 ⟨rfl, hb⟩; refine ⟨_, rfl, ?_⟩; have n0_ := Aside0.mk (blk_below (g := gb264) (o := .cells #[.int .i64 0, .int .i64 0, .int .i64 0, .int .i64 0, .int .i64 0] 66 (0, 0)) (by refine zP5 ?_; refine blk_far ?_ NB264_266.out _; refine zP5 ?_; refine blk_far ?_ NB264_266.out _; refine zP5 ?_; refine blk_far ?_ NB264_266.out _; refine zP5 ?_; refine blk_far ?_ NB264_266.out _; refine zP5 ?_; refine blk_far ?_ NB264_266.out _; refine zP5 ?_; exact BK264.out) hb); have n1_ := Aside0.mk (blk_below (g := gb266) (o := .cells #[.int .i64 (Int.tmod a0 16), .int .i64 (Int.tmod (wrap64 (Int.tdiv a0 16)) 4), .int .i64 (Int.tmod (wrap64 (Int.tdiv a0 64)) 4), .int .i64 (Int.tmod (wrap64 (Int.tdiv a0 256)) 4), .int .i64 (wrap64 (Int.tdiv a0 1024))] 66 (0, 0)) (by refine zP5 ?_; refine blk_put (cs := #[.int .i64 (Int.tmod a0 16), .int .i64 (Int.tmod (wrap64 (Int.tdiv a0 16)) 4), .int .i64 (Int.tmod (wrap64 (Int.tdiv a0 64)) 4), .int .i64 (Int.tmod (wrap64 (Int.tdiv a0 256)) 4), .int .i64 0]) ?_ 4 _ rfl; refine zP5 ?_; refine blk_put (cs := #[.int .i64 (Int.tmod a0 16), .int .i64 (Int.tmod (wrap64 (Int.tdiv a0 16)) 4), .int .i64 (Int.tmod (wrap64 (Int.tdiv a0 64)) 4), .int .i64 0, .int .i64 0]) ?_ 3 _ rfl; refine zP5 ?_; refine blk_put (cs := #[.int .i64 (Int.tmod a0 16), .int .i64 (Int.tmod (wrap64 (Int.tdiv a0 16)) 4), .int .i64 0, .int .i64 0, .int .i64 0]) ?_ 2 _ rfl; refine zP5 ?_; refine blk_put (cs := #[.int .i64 (Int.tmod a0 16), .int .i64 0, .int .i64 0, .int .i64 0, .int .i64 0]) ?_ 1 _ rfl; refine zP5 ?_; refine blk_put (cs := #[.int .i64 0, .int .i64 0, .int .i64 0, .int .i64 0, .int .i64 0]) ?_ 0 _ rfl; refine zP5 ?_; exact BK266.out) hb); have n2_ := Aside0.mk (below_step (zB5_3) hb); clear BK264; clear BK266; clear HB; have BK264 := n0_; have BK266 := n1_; have HB := n2_; clear n0_ n1_ n2_; (try clear hb); (try clear hb2); (try clear hk); (try clear hi); obtain ⟨hcz18_0, hcz18_1, hcz18_2, hcz18_3, hcz18_4, hfz18_0, hfz18_1, hfz18_2, hfz18_3, hfz18_4⟩ := zc5_5 (w := w17) BK264.out))
    refine bodyPost_ret (results_ct rfl _ _ gb264 66 #[.int .i64 0, .int .i64 0, .int .i64 0, .int .i64 0, .int .i64 0] (0, 0) _ rfl (by refine zP5 ?_; refine blk_put (cs := #[.int .i64 0, .int .i64 0, .int .i64 0, .int .i64 0, .int .i64 0]) ?_ 4 _ rfl; refine zP5 ?_; refine blk_put (cs := #[.int .i64 0, .int .i64 0, .int .i64 0, .int .i64 0, .int .i64 0]) ?_ 3 _ rfl; refine zP5 ?_; refine blk_put (cs := #[.int .i64 0, .int .i64 0, .int .i64 0, .int .i64 0, .int .i64 0]) ?_ 2 _ rfl; refine zP5 ?_; refine blk_put (cs := #[.int .i64 0, .int .i64 0, .int .i64 0, .int .i64 0, .int .i64 0]) ?_ 1 _ rfl; refine zP5 ?_; refine blk_put (cs := #[.int .i64 0, .int .i64 0, .int .i64 0, .int .i64 0, .int .i64 0]) ?_ 0 _ rfl; refine zP5 ?_; exact BK264.out) Try.underlying66 rfl (by kernel_rfl)) rfl ?_
    exact ⟨zE5, zB5_3⟩
  subst c5
  have H1 : (some (Int.tmod a0 16, Int.tmod (wrap64 (Int.tdiv a0 16)) 4, Int.tmod (wrap64 (Int.tdiv a0 64)) 4, Int.tmod (wrap64 (Int.tdiv a0 256)) 4, wrap64 (Int.tdiv a0 1024), true)) = some (r1, r2, r3, r4, r5, r6) := by rw [if_pos rfl] at H; exact H
  clear H
  have H := H1
  clear H1
  simp only [Option.some.injEq, Prod.mk.injEq] at H
  obtain ⟨rfl, rfl, rfl, rfl, rfl, rfl⟩ := H
  go_enter Try.func57, Try.ntmps57
  go_wp2_with (first | ((with_reducible refine gate_dst (N := 2) rfl ?_); refine box_event ?hg (N := 2) ?hd (cs := #[.int .i64 0, .int .i64 0, .int .i64 0, .int .i64 0, .int .i64 0]) (t := 66) ?hr ?_; (case hd => rfl); (case hg => rfl); (case hr => first | (go_simp; done) | (go_simp; rfl)); intro gb264 hg w6 hbox hb; have n0_ := Aside0.mk (below_step (zB5_1) hb); have n1_ := Aside0.mk (hbox); have n2_ := Aside0.mk ((by rw [hg]; exact (below_size (zB5_1)) : w.heap.size ≤ gb264)); have n3_ := Aside0.mk ((by rw [hg]; exact (below_size (zB5_1)) : w.heap.size ≤ gb264)); clear HB; have HB := n0_; have BK264 := n1_; have GW264 := n2_; have GE264 := n3_; clear n0_ n1_ n2_ n3_; clear hb hbox hg) | ((with_reducible refine gate_callee (f := 92) rfl ?_); refine goesL_ (some 6) rfl rfl Try.func92 (by kernel_rfl) rfl #[.int .i64 a0] rfl zT5 ?_; (with_reducible refine (impl_isWord.calls a0 true _ A2.out).mono ?_); rintro e w' ⟨rfl, ⟨nd, rfl⟩⟩; refine ⟨_, rfl, ?_⟩; (try (rw [drewN_self w6]; generalize hq_ : World.drewN w6 _ = w6; have n0_ : Aside0 (w6.heap[gb264]? = some (.cells #[.int .i64 0, .int .i64 0, .int .i64 0, .int .i64 0, .int .i64 0] 66 (0, 0))) := ⟨by rw [← hq_]; exact (zK5 BK264.out)⟩; have n1_ : Aside0 (Below w.heap.size w w6) := ⟨by rw [← hq_]; exact (zB5_2)⟩; clear BK264 HB hq_; have BK264 := n0_; have HB := n1_; clear n0_ n1_))) | ((with_reducible refine gate_dst (N := 4) rfl ?_); refine box_event ?hg (N := 4) ?hd (cs := #[.int .i64 0, .int .i64 0, .int .i64 0, .int .i64 0, .int .i64 0]) (t := 66) ?hr ?_; (case hd => rfl); (case hg => rfl); (case hr => first | (go_simp; done) | (go_simp; rfl)); intro gb266 hg w7 hbox hb; have n0_ := Aside0.mk (zb5 BK264.out hb); have n1_ := Aside0.mk (below_step (zB5_2) hb); have n2_ := Aside0.mk (hbox); have n3_ := Aside0.mk ((by rw [hg]; exact (below_size (zB5_2)) : w.heap.size ≤ gb266)); have n4_ := Aside0.mk ((by rw [hg]; exact (below_size (zB5_2)) : w.heap.size ≤ gb266)); have n5_ := Aside0.mk ((zn5 BK264.out hg : gb264 ≠ gb266)); have n6_ := Aside0.mk ((zm5 BK264.out hg : gb266 ≠ gb264)); clear BK264; clear HB; have BK264 := n0_; have HB := n1_; have BK266 := n2_; have GW266 := n3_; have GE266 := n4_; have NB264_266 := n5_; have NB266_264 := n6_; clear n0_ n1_ n2_ n3_ n4_ n5_ n6_; clear hb hbox hg; have hnb8 := NB266_264.out; have hnc8 := NB264_266.out; obtain ⟨hcz9_0, hcz9_1, hcz9_2, hcz9_3, hcz9_4, hfz9_0, hfz9_1, hfz9_2, hfz9_3, hfz9_4⟩ := zc5_5 (w := w7) BK266.out) | ((with_reducible refine gate_callee (f := 93) rfl ?_); refine goesL_ (some 24) rfl rfl Try.func93 (by kernel_rfl) rfl #[.agg #[.int .i64 (Int.tmod a0 16), .int .i64 (Int.tmod (wrap64 (Int.tdiv a0 16)) 4), .int .i64 (Int.tmod (wrap64 (Int.tdiv a0 64)) 4), .int .i64 (Int.tmod (wrap64 (Int.tdiv a0 256)) 4), .int .i64 (wrap64 (Int.tdiv a0 1024))]] rfl zT5 ?_; (with_reducible refine (impl_InsOk.calls (Int.tmod a0 16) (Int.tmod (wrap64 (Int.tdiv a0 16)) 4) (Int.tmod (wrap64 (Int.tdiv a0 64)) 4) (Int.tmod (wrap64 (Int.tdiv a0 256)) 4) (wrap64 (Int.tdiv a0 1024)) true _ A4.out).mono ?_); rintro e w10 ⟨rfl, hb⟩; refine ⟨_, rfl, ?_⟩; have n0_ := Aside0.mk (blk_below (g := gb264) (o := .cells #[.int .i64 0, .int .i64 0, .int .i64 0, .int .i64 0, .int .i64 0] 66 (0, 0)) (by refine zP5 ?_; refine blk_far ?_ NB264_266.out _; refine zP5 ?_; refine blk_far ?_ NB264_266.out _; refine zP5 ?_; refine blk_far ?_ NB264_266.out _; refine zP5 ?_; refine blk_far ?_ NB264_266.out _; refine zP5 ?_; refine blk_far ?_ NB264_266.out _; refine zP5 ?_; exact BK264.out) hb); have n1_ := Aside0.mk (blk_below (g := gb266) (o := .cells #[.int .i64 (Int.tmod a0 16), .int .i64 (Int.tmod (wrap64 (Int.tdiv a0 16)) 4), .int .i64 (Int.tmod (wrap64 (Int.tdiv a0 64)) 4), .int .i64 (Int.tmod (wrap64 (Int.tdiv a0 256)) 4), .int .i64 (wrap64 (Int.tdiv a0 1024))] 66 (0, 0)) (by refine zP5 ?_; refine blk_put (cs := #[.int .i64 (Int.tmod a0 16), .int .i64 (Int.tmod (wrap64 (Int.tdiv a0 16)) 4), .int .i64 (Int.tmod (wrap64 (Int.tdiv a0 64)) 4), .int .i64 (Int.tmod (wrap64 (Int.tdiv a0 256)) 4), .int .i64 0]) ?_ 4 _ rfl; refine zP5 ?_; refine blk_put (cs := #[.int .i64 (Int.tmod a0 16), .int .i64 (Int.tmod (wrap64 (Int.tdiv a0 16)) 4), .int .i64 (Int.tmod (wrap64 (Int.tdiv a0 64)) 4), .int .i64 0, .int .i64 0]) ?_ 3 _ rfl; refine zP5 ?_; refine blk_put (cs := #[.int .i64 (Int.tmod a0 16), .int .i64 (Int.tmod (wrap64 (Int.tdiv a0 16)) 4), .int .i64 0, .int .i64 0, .int .i64 0]) ?_ 2 _ rfl; refine zP5 ?_; refine blk_put (cs := #[.int .i64 (Int.tmod a0 16), .int .i64 0, .int .i64 0, .int .i64 0, .int .i64 0]) ?_ 1 _ rfl; refine zP5 ?_; refine blk_put (cs := #[.int .i64 0, .int .i64 0, .int .i64 0, .int .i64 0, .int .i64 0]) ?_ 0 _ rfl; refine zP5 ?_; exact BK266.out) hb); have n2_ := Aside0.mk (below_step (zB5_3) hb); clear BK264; clear BK266; clear HB; have BK264 := n0_; have BK266 := n1_; have HB := n2_; clear n0_ n1_ n2_; (try clear hb); (try clear hb2); (try clear hk); (try clear hi); obtain ⟨hcz11_0, hcz11_1, hcz11_2, hcz11_3, hcz11_4, hfz11_0, hfz11_1, hfz11_2, hfz11_3, hfz11_4⟩ := zc5_5 (w := w10) BK266.out; obtain ⟨hcz12_0, hcz12_1, hcz12_2, hcz12_3, hcz12_4, hfz12_0, hfz12_1, hfz12_2, hfz12_3, hfz12_4⟩ := zc5_5 (w := w10) BK264.out))
  refine bodyPost_ret (results_ct rfl _ _ gb264 66 #[.int .i64 (Int.tmod a0 16), .int .i64 (Int.tmod (wrap64 (Int.tdiv a0 16)) 4), .int .i64 (Int.tmod (wrap64 (Int.tdiv a0 64)) 4), .int .i64 (Int.tmod (wrap64 (Int.tdiv a0 256)) 4), .int .i64 (wrap64 (Int.tdiv a0 1024))] (0, 0) _ rfl (by refine zP5 ?_; refine blk_put (cs := #[.int .i64 (Int.tmod a0 16), .int .i64 (Int.tmod (wrap64 (Int.tdiv a0 16)) 4), .int .i64 (Int.tmod (wrap64 (Int.tdiv a0 64)) 4), .int .i64 (Int.tmod (wrap64 (Int.tdiv a0 256)) 4), .int .i64 0]) ?_ 4 _ rfl; refine zP5 ?_; refine blk_put (cs := #[.int .i64 (Int.tmod a0 16), .int .i64 (Int.tmod (wrap64 (Int.tdiv a0 16)) 4), .int .i64 (Int.tmod (wrap64 (Int.tdiv a0 64)) 4), .int .i64 0, .int .i64 0]) ?_ 3 _ rfl; refine zP5 ?_; refine blk_put (cs := #[.int .i64 (Int.tmod a0 16), .int .i64 (Int.tmod (wrap64 (Int.tdiv a0 16)) 4), .int .i64 0, .int .i64 0, .int .i64 0]) ?_ 2 _ rfl; refine zP5 ?_; refine blk_put (cs := #[.int .i64 (Int.tmod a0 16), .int .i64 0, .int .i64 0, .int .i64 0, .int .i64 0]) ?_ 1 _ rfl; refine zP5 ?_; refine blk_put (cs := #[.int .i64 0, .int .i64 0, .int .i64 0, .int .i64 0, .int .i64 0]) ?_ 0 _ rfl; refine zP5 ?_; exact BK264.out) Try.underlying66 rfl (by kernel_rfl)) rfl ?_
  exact ⟨zE5, zB5_3⟩

/-! ### impl_address: function 58 -/
def impl_address.f (a0 : Int) : Option (Int) := some (Int.tmod (wrap64 ((Int.tmod a0 24) + 24)) 24)
set_option maxHeartbeats 8000000 in
set_option maxRecDepth 100000 in
theorem impl_address.calls (a0 : Int) (r : Int) (w : World) (h : impl_address.f a0 = some r) :
    Calls Try.prog 58 #[.int .i64 a0] w fun e w' => e = .returned (.int .i64 r) ∧ Drawn0 w w' := by
  have H : (some (Int.tmod (wrap64 ((Int.tmod a0 24) + 24)) 24)) = some r := h
  clear h
  obtain rfl := Option.some.inj H
  go_enter Try.func58, Try.ntmps58
  go_wp2
  go_ret
  exact ⟨by first | rfl | (simp; done) | (simp [*]; done), by repeat (first | exact Drawn0.refl _ | apply Drawn0.step)⟩

/-! ### slices_Compact_int_int: function 59 -/
def sh.laysNm220_ren : Go.Shelf.Ren := ⟨fun | 20 => 59 | n => n, fun | 22 => 24 | 3 => 3 | 4 => 4 | 0 => 0 | n => n, fun | n => n⟩
theorem sh.laysNm220 : Go.Proofs.Lays2.n20 Try.prog sh.laysNm220_ren := {
  mixed := by kernel_rfl
  f20 := Try.func59.trans (congrArg some (by kernel_rfl))
  t0 := Try.underlying0
  a0 := Try.isAgg0
  z0 := Try.sizeOf0
  v0 := Try.zeroValue0
  t3 := Try.underlying3
  a3 := Try.isAgg3
  z3 := Try.sizeOf3
  v3 := Try.zeroValue3
  t4 := Try.underlying4
  a4 := Try.isAgg4
  z4 := Try.sizeOf4
  v4 := Try.zeroValue4
  t22 := Try.underlying24
  a22 := Try.isAgg24
  z22 := Try.sizeOf24
  v22 := Try.zeroValue24
  i3 := by kernel_rfl }
open Go.RowKit Go.Lib Go.Sort in
theorem sh.slices_Compact_int_cells (b off n c : Nat) (zs : List Int) (w : World) (hz : n ≤ zs.length) (hbig : n ≤ 9223372036854775807) (hcap : n ≤ c) (hc : ∀ j, j < zs.length → w.cell? ⟨b, off + j, none⟩ = some (.int .i64 (zs.getD j 0))) (hf : ∀ j, j < n → w.frozen? ⟨b, off + j, none⟩ = false) :
    Calls Try.prog 59 #[.slice (some ⟨b, off, none⟩) n c] w fun e w' => e = .returned (.slice (some ⟨b, off, none⟩) (Lib.compact (zs.take n)).length c) ∧ ∃ q, w' = (w.drewN q).setCells b off ((Lib.compact (zs.take n) ++ List.replicate (n - (Lib.compact (zs.take n)).length) 0).map (Value.int .i64)) := Any.slices_Compact_int_cells sh.laysNm220 b off n c zs w hz hbig hcap hc hf
def slices_Compact_int_int.f (l0 : List Int) : Option (List Int) := if 0 < l0.length then some (Go.Lib.compact l0) else none
theorem slices_Compact_int_int.calls (P0_ : Nat → Prop) (u9000_ : Value) (l0 : List Int) (r : List Int) (w0 w : World) (hB : Below w0.heap.size w0 w) (ho0 : Kd.R (Kd.int .i64) 3 w w0.heap.size P0_ u9000_ l0) (h : slices_Compact_int_int.f l0 = some r) :
    Calls Try.prog 59 #[u9000_] w fun e w' => ∃ v0_ : Value, e = .returned (v0_) ∧ Kd.R (Kd.int .i64) 3 w' w0.heap.size (fun k_ => (P0_ k_ ∨ w.heap.size ≤ k_)) v0_ r ∧ Below w0.heap.size w0 w' ∧ Kept w w' (fun k_ => P0_ k_) := by
  have hp : 0 < l0.length := by
    by_cases c : 0 < l0.length
    · exact c
    unfold slices_Compact_int_int.f at h; rw [if_neg c] at h; cases h
  unfold slices_Compact_int_int.f at h
  rw [if_pos hp] at h
  obtain rfl := Option.some.inj h
  obtain ⟨A, c, hu, hlc, hC⟩ := Kd.R_reads ho0
  obtain ⟨g, cap, hv, hg1, hg2, _⟩ := Kd.R_form ho0 hp
  rw [hv] at hu
  injection hu with hu1 _ hu3
  subst hu3
  subst hv
  have hS : (Kd.scalar (Value.int .i64) (fun _ => rfl)).R 3 w w0.heap.size P0_ (.slice (some ⟨g, 0, none⟩) l0.length cap) l0 := ho0
  have hcell : ∀ j, j < l0.length → w.cell? ⟨g, 0 + j, none⟩ = some (.int .i64 (l0.getD j 0)) ∧ w.frozen? ⟨g, 0 + j, none⟩ = false := fun j hj => by
    have := Kd.R_cell 0 hS (j : Int) (by omega) (by omega)
    rw [Int.toNat_natCast] at this
    rw [Nat.zero_add]; exact this
  refine (sh.slices_Compact_int_cells g 0 l0.length cap l0 w (Nat.le_refl _) hC.2.1 hlc (fun j hj => (hcell j hj).1) (fun j hj => (hcell j hj).2)).mono fun e w' ⟨he, q, hw⟩ => ?_
  rw [List.take_length] at he hw
  have hcl : (Go.Lib.compact l0).length ≤ l0.length := Go.Lib.compact_length_le l0
  obtain ⟨h1, h2, h3⟩ := lay_ints (q := q) ho0 (by rw [List.length_append, List.length_replicate]; omega) hw
  exact ⟨_, he, Kd.R_mono h1 (fun k hk => .inl hk), hB.trans (h2 _ hg1), Kept.mono h3 (fun k hk => by subst hk; exact ho0.1 _ rfl)⟩

/-! ### impl_NextOf: function 15 -/
mutual
def impl_NextOf.j0 : Nat → List Int → Int → Bool → Option (List Int)
  | 0, _, _, _ => none
  | k + 1, x0, x1, x15 => if x15 = true then (some ([] : List Int)) else (if 0 ≤ x1 then (if x1 < (x0.length : Int) then ((impl_Decode.f (rd x0 x1)).bind fun bt271 => (if bt271.2.2.2.2.2 = true then (impl_NextOf.j1 k x1 (bt271.1 == 9) bt271.1 bt271.2.1 bt271.2.2.1 bt271.2.2.2.1 bt271.2.2.2.2.1) else (impl_NextOf.j1 k x1 true bt271.1 bt271.2.1 bt271.2.2.1 bt271.2.2.2.1 bt271.2.2.2.2.1))) else (none)) else (none))
def impl_NextOf.j1 : Nat → Int → Bool → Int → Int → Int → Int → Int → Option (List Int)
  | 0, _, _, _, _, _, _, _ => none
  | k + 1, x1, x24, x278000, x278001, x278002, x278003, x278004 => if x24 = true then (some ([] : List Int)) else (if x278000 = 8 then ((impl_address.f x278004).bind fun t278 => (some (([t278] : List Int)))) else ((impl_address.f (wrap64 (x1 + 1))).bind fun t282 => ((some (([t282] : List Int) : List Int)).bind fun y283 => (if x278000 = 7 then ((impl_address.f x278004).bind fun t286 => (if y283.length < 17592186044416 then ((slices_Sort_int_int.f (y283 ++ [t286])).bind fun t290 => ((slices_Compact_int_int.f t290).bind fun t291 => (some t291))) else (none))) else ((slices_Sort_int_int.f y283).bind fun t294 => ((slices_Compact_int_int.f t294).bind fun t295 => (some t295)))))))
end
def impl_NextOf.f (k : Nat) (l0 : List Int) (a1 : Int) : Option (List Int) := (impl_memOk.f k l0).bind fun t268 => (if t268 = true then ((impl_isCell.f a1).bind fun t269 => (impl_NextOf.j0 k l0 a1 (!t269))) else (impl_NextOf.j0 k l0 a1 true))
theorem impl_NextOf.mono_l : ∀ k, (∀ y0 y1 y2, LeO (impl_NextOf.j0 k y0 y1 y2) (impl_NextOf.j0 (k + 1) y0 y1 y2)) ∧ (∀ y0 y1 y2 y3 y4 y5 y6, LeO (impl_NextOf.j1 k y0 y1 y2 y3 y4 y5 y6) (impl_NextOf.j1 (k + 1) y0 y1 y2 y3 y4 y5 y6))
  | 0 => ⟨fun _ _ _ r h => by simp [impl_NextOf.j0] at h, fun _ _ _ _ _ _ _ r h => by simp [impl_NextOf.j1] at h⟩
  | k + 1 => by
    obtain ⟨ih0, ih1⟩ := impl_NextOf.mono_l k
    refine ⟨?_, ?_⟩
    · intro y0 y1 y2
      unfold impl_NextOf.j0
      repeat' first
      | (with_reducible exact ih0 _ _ _)
      | (with_reducible exact ih1 _ _ _ _ _ _ _)
      | (with_reducible exact impl_memOk.mono _ _)
      | (with_reducible exact LeO.refl _)
      | (with_reducible exact LeO.none _)
      | (with_reducible refine LeO.ite ?_ ?_)
      | (with_reducible refine LeO.bind ?_ (fun _ => ?_))
      | exact ih0 _ _ _
      | exact ih1 _ _ _ _ _ _ _
      | exact impl_memOk.mono _ _
      | exact LeO.none _
      | refine LeO.ite ?_ ?_
      | refine LeO.bind ?_ (fun _ => ?_)
    · intro y0 y1 y2 y3 y4 y5 y6
      unfold impl_NextOf.j1
      repeat' first
      | (with_reducible exact ih0 _ _ _)
      | (with_reducible exact ih1 _ _ _ _ _ _ _)
      | (with_reducible exact impl_memOk.mono _ _)
      | (with_reducible exact LeO.refl _)
      | (with_reducible exact LeO.none _)
      | (with_reducible refine LeO.ite ?_ ?_)
      | (with_reducible refine LeO.bind ?_ (fun _ => ?_))
      | exact ih0 _ _ _
      | exact ih1 _ _ _ _ _ _ _
      | exact impl_memOk.mono _ _
      | exact LeO.none _
      | refine LeO.ite ?_ ?_
      | refine LeO.bind ?_ (fun _ => ?_)
theorem impl_NextOf.mono : ∀ a0 a1 k, LeO (impl_NextOf.f k a0 a1) (impl_NextOf.f (k + 1) a0 a1) := by
  intro a0 a1 k
  obtain ⟨ih0, ih1⟩ := impl_NextOf.mono_l k
  unfold impl_NextOf.f
  repeat' first
      | (with_reducible exact ih0 _ _ _)
      | (with_reducible exact ih1 _ _ _ _ _ _ _)
      | (with_reducible exact impl_memOk.mono _ _)
      | (with_reducible exact LeO.refl _)
      | (with_reducible exact LeO.none _)
      | (with_reducible refine LeO.ite ?_ ?_)
      | (with_reducible refine LeO.bind ?_ (fun _ => ?_))
      | exact ih0 _ _ _
      | exact ih1 _ _ _ _ _ _ _
      | exact impl_memOk.mono _ _
      | exact LeO.none _
      | refine LeO.ite ?_ ?_
      | refine LeO.bind ?_ (fun _ => ?_)
set_option maxHeartbeats 8000000 in
set_option maxRecDepth 100000 in
theorem impl_NextOf.calls (k : Nat) (A0 : Option Addr) (c0 : Nat) (l0 : List Int) (a1 : Int) (r : List Int) (w : World) (hr0 : Kd.C (Kd.int .i64) w A0 l0.length l0) (hc0 : l0.length ≤ c0) (h : impl_NextOf.f k l0 a1 = some r) :
    Calls Try.prog 15 #[.slice A0 l0.length c0, .int .i64 a1] w fun e w' => ∃ v0_ : Value, e = .returned (v0_) ∧ Kd.R (Kd.int .i64) 3 w' w.heap.size (fun _ => True) v0_ r ∧ Below w.heap.size w w' := by
  have hu66 := Try.underlying66
  have HR0 := Aside0.mk hr0
  have HC0 := Aside0.mk hc0
  clear hr0 hc0
  have HB := Aside0.mk (Below.refl w.heap.size w)
  have H : ((impl_memOk.f k l0).bind fun t268 => (if t268 = true then ((impl_isCell.f a1).bind fun t269 => (impl_NextOf.j0 k l0 a1 (!t269))) else (impl_NextOf.j0 k l0 a1 true))) = some r := h
  clear h
  have HC3 := Aside0.mk H
  clear H
  go_enter Try.func15, Try.ntmps15
  go_upto_region 1 with (fail)
  go_cut [15] (fun v15 wc => ∃ (kq : Nat) (x15_2 : Bool), v15 = .bool x15_2 ∧ Aside0 (impl_NextOf.j0 kq l0 a1 x15_2 = some r) ∧ Aside0 (kq ≤ k) ∧ Aside0 (Below w.heap.size w wc))
  case first =>
    have H := HC3.out
    clear HC3
    replace H := Option.bind_eq_some_iff.mp H
    obtain ⟨t268, A40, H⟩ := H
    replace H : (if t268 = true then ((impl_isCell.f a1).bind fun t269 => (impl_NextOf.j0 k l0 a1 (!t269))) else (impl_NextOf.j0 k l0 a1 true)) = some r := H
    have A4 := Aside0.mk A40
    clear A40
    by_cases c5 : t268 = true
    rotate_left
    · replace c5 := Bool.eq_false_iff.mpr c5
      subst c5
      have H1 : (impl_NextOf.j0 k l0 a1 true) = some r := by rw [if_neg (show ¬ (false = true) by decide)] at H; exact H
      clear H
      have H := H1
      clear H1
      have H' := Aside0.mk H
      clear H
      go_wp2_with (first | ((with_reducible refine gate_callee (f := 48) rfl ?_); refine goesL_ (some 9) rfl rfl Try.func48 (by kernel_rfl) rfl #[.slice A0 l0.length c0] rfl zT5 ?_; (with_reducible refine (impl_memOk.calls k _ _ l0 false _ ?side1 ?side2 A4.out).mono ?_); (case side1 => exact zC5 (Kd.C_below HR0.out HB.out)); (case side2 => exact HC0.out); rintro e w' ⟨rfl, ⟨nd, rfl⟩⟩; refine ⟨_, rfl, ?_⟩))
      go_meet
      case rel => exact ⟨_, (true), (by first | rfl | (simp; done) | (simp [*]; done)), H', ⟨by first | omega | exact Nat.le_refl _⟩, ⟨zB5_1⟩⟩
    subst c5
    have H1 : ((impl_isCell.f a1).bind fun t269 => (impl_NextOf.j0 k l0 a1 (!t269))) = some r := by rw [if_pos rfl] at H; exact H
    clear H
    have H := H1
    clear H1
    replace H := Option.bind_eq_some_iff.mp H
    obtain ⟨t269, A60, H⟩ := H
    replace H : (impl_NextOf.j0 k l0 a1 (!t269)) = some r := H
    have A6 := Aside0.mk A60
    clear A60
    have H' := Aside0.mk H
    clear H
    go_wp2_with (first | ((with_reducible refine gate_callee (f := 48) rfl ?_); refine goesL_ (some 9) rfl rfl Try.func48 (by kernel_rfl) rfl #[.slice A0 l0.length c0] rfl zT5 ?_; (with_reducible refine (impl_memOk.calls k _ _ l0 true _ ?side1 ?side2 A4.out).mono ?_); (case side1 => exact zC5 (Kd.C_below HR0.out HB.out)); (case side2 => exact HC0.out); rintro e w' ⟨rfl, ⟨nd, rfl⟩⟩; refine ⟨_, rfl, ?_⟩) | (go_at_call 49; (with_reducible refine (impl_isCell.calls a1 t269 _ A6.out).mono ?_); rintro e w' ⟨rfl, ⟨nd, rfl⟩⟩))
    go_meet
    case rel => exact ⟨_, (!t269), (by first | rfl | (simp; done) | (simp [*]; done)), H', ⟨by first | omega | exact Nat.le_refl _⟩, ⟨zB5_1⟩⟩
  case rest =>
    clear HC3
    try clear c1
    try clear p2
    try clear c4
    try clear c5
    obtain ⟨kq, x15_2, rfl, HA, HJ2, HB⟩ := hcut
    cases kq with
    | zero => exact absurd HA.out (by simp [impl_NextOf.j0])
    | succ kj2 =>
      have H := HA.out
      clear HA
      simp only [impl_NextOf.j0] at H
      by_cases c7 : x15_2 = true
      · subst c7
        have H1 : (some ([] : List Int)) = some r := by rw [if_pos rfl] at H; exact H
        clear H
        have H := H1
        clear H1
        obtain rfl := Option.some.inj H
        go_wp2
        go_ret
        exact ⟨_, zE5, by first | exact Kd.R_nil _ _ _ _ _ | exact Kd.N_nil _ _ _ _ _ | exact Kd.V_nil _ _ _ _ _ | exact Kd.Q_nil _ _ _ _ _ | exact Kd.S_nil _ _ _ _ _, zB5_1⟩
      replace c7 := Bool.eq_false_iff.mpr c7
      subst c7
      have H1 : (if 0 ≤ a1 then (if a1 < (l0.length : Int) then ((impl_Decode.f (rd l0 a1)).bind fun bt271 => (if bt271.2.2.2.2.2 = true then (impl_NextOf.j1 kj2 a1 (bt271.1 == 9) bt271.1 bt271.2.1 bt271.2.2.1 bt271.2.2.2.1 bt271.2.2.2.2.1) else (impl_NextOf.j1 kj2 a1 true bt271.1 bt271.2.1 bt271.2.2.1 bt271.2.2.2.1 bt271.2.2.2.2.1))) else (none)) else (none)) = some r := by rw [if_neg (show ¬ (false = true) by decide)] at H; exact H
      clear H
      have H := H1
      clear H1
      by_cases c8 : 0 ≤ a1
      rotate_left
      · rw [if_neg c8] at H
        exact absurd H (by simp)
      rw [if_pos c8] at H
      have c8b0 : decide (0 ≤ a1) = true := decide_eq_true c8
      clear c8
      by_cases c9 : a1 < (l0.length : Int)
      rotate_left
      · rw [if_neg c9] at H
        exact absurd H (by simp)
      rw [if_pos c9] at H
      have c9b0 : decide (a1 < (l0.length : Int)) = true := decide_eq_true c9
      clear c9
      replace H := Option.bind_eq_some_iff.mp H
      obtain ⟨⟨t271, t272, t273, t274, t275, t276⟩, A100, H⟩ := H
      replace H : (if t276 = true then (impl_NextOf.j1 kj2 a1 (t271 == 9) t271 t272 t273 t274 t275) else (impl_NextOf.j1 kj2 a1 true t271 t272 t273 t274 t275)) = some r := H
      have A10 := Aside0.mk A100
      clear A100
      have HC11 := Aside0.mk H
      clear H
      have p270 : 0 ≤ (a1 : Int) := zA5
      have q270 : a1 < (l0.length : Int) := zA5
      obtain ⟨ad270, e270, hx270_0⟩ := Kd.at_int HR0.out a1 p270 q270
      cases e270
      replace hx270_0 := (HB.out.cell (World.block_lt_of_cell? w _ hx270_0)).trans hx270_0
      replace p270 := eq_true p270
      replace q270 := eq_true q270
      go_upto_region 4 with (first | ((with_reducible refine gate_callee (f := 57) rfl ?_); refine goesL_ (some 21) rfl rfl Try.func57 (by kernel_rfl) rfl #[.int .i64 (rd l0 a1)] rfl zT5 ?_; (with_reducible refine (impl_Decode.calls (rd l0 a1) t271 t272 t273 t274 t275 t276 _ A10.out).mono ?_); rintro e w12 ⟨rfl, hb⟩; refine ⟨_, rfl, ?_⟩; have n0_ := Aside0.mk (below_step (zB5_1) hb); clear HB; have HB := n0_; clear n0_; (try clear hb); (try clear hb2); (try clear hk); (try clear hi)) | ((with_reducible refine gate_dst (N := 5) rfl ?_); refine box_event ?hg (N := 5) ?hd (cs := #[.int .i64 0, .int .i64 0, .int .i64 0, .int .i64 0, .int .i64 0]) (t := 66) ?hr ?_; (case hd => rfl); (case hg => rfl); (case hr => first | (go_simp; done) | (go_simp; rfl)); intro gb277 hg w13 hbox hb; have n0_ := Aside0.mk (below_step (zB5_1) hb); have n1_ := Aside0.mk (hbox); have n2_ := Aside0.mk ((by rw [hg]; exact (below_size (zB5_1)) : w.heap.size ≤ gb277)); have n3_ := Aside0.mk ((by rw [hg]; exact (below_size (zB5_1)) : w.heap.size ≤ gb277)); clear HB; have HB := n0_; have BK277 := n1_; have GW277 := n2_; have GE277 := n3_; clear n0_ n1_ n2_ n3_; clear hb hbox hg; obtain ⟨hcz14_0, hcz14_1, hcz14_2, hcz14_3, hcz14_4, hfz14_0, hfz14_1, hfz14_2, hfz14_3, hfz14_4⟩ := zc5_5 (w := w13) BK277.out))
      (try simp only [Act.put, List.setIfInBounds_toArray, List.set_cons_zero, List.set_cons_succ])
      go_cut [24] (fun v24 wc => ∃ (kq : Nat) (x24_10 : Bool), v24 = .bool x24_10 ∧ Aside0 (impl_NextOf.j1 kq a1 x24_10 t271 t272 t273 t274 t275 = some r) ∧ Aside0 (kq ≤ kj2) ∧ Aside0 (wc.heap[gb277]? = some (.cells #[.int .i64 t271, .int .i64 t272, .int .i64 t273, .int .i64 t274, .int .i64 t275] 66 (0, 0))) ∧ Aside0 (Below w.heap.size w wc))
      case first =>
        have H := HC11.out
        clear HC11
        by_cases c15 : t276 = true
        rotate_left
        · replace c15 := Bool.eq_false_iff.mpr c15
          subst c15
          have H1 : (impl_NextOf.j1 kj2 a1 true t271 t272 t273 t274 t275) = some r := by rw [if_neg (show ¬ (false = true) by decide)] at H; exact H
          clear H
          have H := H1
          clear H1
          have H' := Aside0.mk H
          clear H
          go_wp2
          go_meet
          case rel => exact ⟨_, (true), (by first | rfl | (simp; done) | (simp [*]; done)), H', ⟨by have := HJ2.out; first | omega | exact Nat.le_refl _⟩, ⟨by refine zP5 ?_; refine blk_put (cs := #[.int .i64 t271, .int .i64 t272, .int .i64 t273, .int .i64 t274, .int .i64 0]) ?_ 4 _ rfl; refine zP5 ?_; refine blk_put (cs := #[.int .i64 t271, .int .i64 t272, .int .i64 t273, .int .i64 0, .int .i64 0]) ?_ 3 _ rfl; refine zP5 ?_; refine blk_put (cs := #[.int .i64 t271, .int .i64 t272, .int .i64 0, .int .i64 0, .int .i64 0]) ?_ 2 _ rfl; refine zP5 ?_; refine blk_put (cs := #[.int .i64 t271, .int .i64 0, .int .i64 0, .int .i64 0, .int .i64 0]) ?_ 1 _ rfl; refine zP5 ?_; refine blk_put (cs := #[.int .i64 0, .int .i64 0, .int .i64 0, .int .i64 0, .int .i64 0]) ?_ 0 _ rfl; refine zP5 ?_; exact BK277.out⟩, ⟨zB5_4⟩⟩
        subst c15
        have H1 : (impl_NextOf.j1 kj2 a1 (t271 == 9) t271 t272 t273 t274 t275) = some r := by rw [if_pos rfl] at H; exact H
        clear H
        have H := H1
        clear H1
        have H' := Aside0.mk H
        clear H
        obtain ⟨hcz16_0, hcz16_1, hcz16_2, hcz16_3, hcz16_4, hfz16_0, hfz16_1, hfz16_2, hfz16_3, hfz16_4⟩ := zc5_5 (w := w13) BK277.out
        go_wp2
        go_meet
        case rel => exact ⟨_, ((t271 == 9)), (by first | rfl | (simp; done) | (simp [*]; done)), H', ⟨by have := HJ2.out; first | omega | exact Nat.le_refl _⟩, ⟨by refine zP5 ?_; refine blk_put (cs := #[.int .i64 t271, .int .i64 t272, .int .i64 t273, .int .i64 t274, .int .i64 0]) ?_ 4 _ rfl; refine zP5 ?_; refine blk_put (cs := #[.int .i64 t271, .int .i64 t272, .int .i64 t273, .int .i64 0, .int .i64 0]) ?_ 3 _ rfl; refine zP5 ?_; refine blk_put (cs := #[.int .i64 t271, .int .i64 t272, .int .i64 0, .int .i64 0, .int .i64 0]) ?_ 2 _ rfl; refine zP5 ?_; refine blk_put (cs := #[.int .i64 t271, .int .i64 0, .int .i64 0, .int .i64 0, .int .i64 0]) ?_ 1 _ rfl; refine zP5 ?_; refine blk_put (cs := #[.int .i64 0, .int .i64 0, .int .i64 0, .int .i64 0, .int .i64 0]) ?_ 0 _ rfl; refine zP5 ?_; exact BK277.out⟩, ⟨zB5_4⟩⟩
      case rest =>
        clear HC11
        try clear c1
        try clear p2
        try clear q2
        try clear hx2
        try clear c4
        try clear c5
        try clear c7
        try clear c8
        try clear c8b0
        try clear c9
        try clear c9b0
        try clear c15
        try clear hcz14_0
        try clear hcz14_1
        try clear hcz14_2
        try clear hcz14_3
        try clear hcz14_4
        try clear hcz16_0
        try clear hcz16_1
        try clear hcz16_2
        try clear hcz16_3
        try clear hcz16_4
        try clear hfz14_0
        try clear hfz14_1
        try clear hfz14_2
        try clear hfz14_3
        try clear hfz14_4
        try clear hfz16_0
        try clear hfz16_1
        try clear hfz16_2
        try clear hfz16_3
        try clear hfz16_4
        try clear hx270_0
        try clear p2
        try clear p270
        try clear q270
        obtain ⟨kq, x24_10, rfl, HA, HJ10, BK277, HB⟩ := hcut
        cases kq with
        | zero => exact absurd HA.out (by simp [impl_NextOf.j1])
        | succ kj10 =>
          have H := HA.out
          clear HA
          simp only [impl_NextOf.j1] at H
          by_cases c17 : x24_10 = true
          · subst c17
            have H1 : (some ([] : List Int)) = some r := by rw [if_pos rfl] at H; exact H
            clear H
            have H := H1
            clear H1
            obtain rfl := Option.some.inj H
            go_wp2
            go_ret
            exact ⟨_, zE5, by first | exact Kd.R_nil _ _ _ _ _ | exact Kd.N_nil _ _ _ _ _ | exact Kd.V_nil _ _ _ _ _ | exact Kd.Q_nil _ _ _ _ _ | exact Kd.S_nil _ _ _ _ _, zB5_4⟩
          replace c17 := Bool.eq_false_iff.mpr c17
          subst c17
          have H1 : (if t271 = 8 then ((impl_address.f t275).bind fun t278 => (some (([t278] : List Int)))) else ((impl_address.f (wrap64 (a1 + 1))).bind fun t282 => ((some (([t282] : List Int) : List Int)).bind fun y283 => (if t271 = 7 then ((impl_address.f t275).bind fun t286 => (if y283.length < 17592186044416 then ((slices_Sort_int_int.f (y283 ++ [t286])).bind fun t290 => ((slices_Compact_int_int.f t290).bind fun t291 => (some t291))) else (none))) else ((slices_Sort_int_int.f y283).bind fun t294 => ((slices_Compact_int_int.f t294).bind fun t295 => (some t295))))))) = some r := by rw [if_neg (show ¬ (false = true) by decide)] at H; exact H
          clear H
          have H := H1
          clear H1
          by_cases c18 : t271 = 8
          · rw [if_pos c18] at H
            have c18b0 : (t271 == 8) = true := beq_iff_eq.mpr c18
            have c18b1 : (t271 != 8) = false := bne_eq_false_iff_eq.mpr c18
            clear c18
            replace H := Option.bind_eq_some_iff.mp H
            obtain ⟨t278, A190, H⟩ := H
            replace H : (some (([t278] : List Int))) = some r := H
            have A19 := Aside0.mk A190
            clear A190
            obtain ⟨y279, hy279⟩ : ∃ y_ : List Int, y_ = (([t278] : List Int)) := ⟨_, rfl⟩
            replace H : (some y279) = some r := by first | (rw [hy279]; with_reducible exact H) | (have H2_ := (Option.bind_some _ _).symm.trans H; rw [hy279]; with_reducible exact H2_) | (have H2_ := (Option.bind_some _ _).symm.trans H; with_reducible exact H2_) | with_reducible exact H | (rw [hy279]; exact H) | exact H
            have Ny279 := Aside0.mk hy279
            clear hy279
            obtain rfl := Option.some.inj H
            obtain ⟨hcz20_0, hcz20_1, hcz20_2, hcz20_3, hcz20_4, hfz20_0, hfz20_1, hfz20_2, hfz20_3, hfz20_4⟩ := zc5_5 (w := wc) BK277.out
            go_wp2_with (first | ((with_reducible refine gate_callee (f := 58) rfl ?_); refine goesL_ (some 38) rfl rfl Try.func58 (by kernel_rfl) rfl #[.int .i64 t275] rfl zT5 ?_; (with_reducible refine (impl_address.calls t275 t278 _ A19.out).mono ?_); rintro e w' ⟨rfl, ⟨nd, rfl⟩⟩; refine ⟨_, rfl, ?_⟩) | ((with_reducible refine gate_dst (N := 39) rfl ?_); refine Kd.R_lit (Kd.int .i64) _ 3 ?hg (N := 39) ?hd (xs := ([t278] : List Int)) (inner := [.int .i64 t278]) (ok := fun _ => True) (okp := fun _ => True) ?hr ?hp (fun _ hk => hk) trivial (Below.refl _ _) (Nat.le_refl _) (by simp) ?_; (case hd => rfl); (case hg => rfl); (case hr => first | (go_simp; done) | (go_simp; rfl)); (case hp => exact (Reps.one (show Kd.M (Kd.int .i64) _ _ _ t278 [.int .i64 t278] from rfl) (Reps.none _ _))); intro v280 w21 ho22 hb hg_ hnew_; clear hg_ hnew_; (first | rw [← Ny279.out] at ho22 | (simp only [Int.reduceToNat] at ho22; rw [← Ny279.out] at ho22)); have n0_ := Aside0.mk (Kd.R_lower ho22 (below_size (zB5_4))); have n1_ := Aside0.mk (zb5 BK277.out hb); have n2_ := Aside0.mk (below_step (zB5_4) hb); clear BK277; clear HB; have HO281 := n0_; have BK277 := n1_; have HB := n2_; clear n0_ n1_ n2_; clear hb ho22))
            go_ret
            exact ⟨_, zE5, zR5 HO281.out, zB5_4⟩
          rw [if_neg c18] at H
          have c18b0 : (t271 == 8) = false := beq_eq_false_iff_ne.mpr c18
          have c18b1 : (t271 != 8) = true := bne_iff_ne.mpr c18
          replace H := Option.bind_eq_some_iff.mp H
          obtain ⟨t282, A230, H⟩ := H
          replace H : ((some (([t282] : List Int) : List Int)).bind fun y283 => (if t271 = 7 then ((impl_address.f t275).bind fun t286 => (if y283.length < 17592186044416 then ((slices_Sort_int_int.f (y283 ++ [t286])).bind fun t290 => ((slices_Compact_int_int.f t290).bind fun t291 => (some t291))) else (none))) else ((slices_Sort_int_int.f y283).bind fun t294 => ((slices_Compact_int_int.f t294).bind fun t295 => (some t295))))) = some r := H
          have A23 := Aside0.mk A230
          clear A230
          obtain ⟨y283, hy283⟩ : ∃ y_ : List Int, y_ = (([t282] : List Int)) := ⟨_, rfl⟩
          replace H : (if t271 = 7 then ((impl_address.f t275).bind fun t286 => (if y283.length < 17592186044416 then ((slices_Sort_int_int.f (y283 ++ [t286])).bind fun t290 => ((slices_Compact_int_int.f t290).bind fun t291 => (some t291))) else (none))) else ((slices_Sort_int_int.f y283).bind fun t294 => ((slices_Compact_int_int.f t294).bind fun t295 => (some t295)))) = some r := by first | (rw [hy283]; with_reducible exact H) | (have H2_ := (Option.bind_some _ _).symm.trans H; rw [hy283]; with_reducible exact H2_) | (have H2_ := (Option.bind_some _ _).symm.trans H; with_reducible exact H2_) | with_reducible exact H | (rw [hy283]; exact H) | exact H
          have Ny283 := Aside0.mk hy283
          clear hy283
          by_cases c24 : t271 = 7
          rotate_left
          · rw [if_neg c24] at H
            have c24b0 : (t271 == 7) = false := beq_eq_false_iff_ne.mpr c24
            have c24b1 : (t271 != 7) = true := bne_iff_ne.mpr c24
            replace H := Option.bind_eq_some_iff.mp H
            obtain ⟨t294, A370, H⟩ := H
            replace H : ((slices_Compact_int_int.f t294).bind fun t295 => (some t295)) = some r := H
            have A37 := Aside0.mk A370
            clear A370
            replace H := Option.bind_eq_some_iff.mp H
            obtain ⟨t295, A380, H⟩ := H
            replace H : (some t295) = some r := H
            have A38 := Aside0.mk A380
            clear A380
            obtain rfl := Option.some.inj H
            obtain ⟨hcz39_0, hcz39_1, hcz39_2, hcz39_3, hcz39_4, hfz39_0, hfz39_1, hfz39_2, hfz39_3, hfz39_4⟩ := zc5_5 (w := wc) BK277.out
            go_wp2_with (first | ((with_reducible refine gate_callee (f := 58) rfl ?_); refine goesL_ (some 42) rfl rfl Try.func58 (by kernel_rfl) rfl #[.int .i64 (wrap64 (a1 + 1))] rfl zT5 ?_; (with_reducible refine (impl_address.calls (wrap64 (a1 + 1)) t282 _ A23.out).mono ?_); rintro e w' ⟨rfl, ⟨nd, rfl⟩⟩; refine ⟨_, rfl, ?_⟩) | ((with_reducible refine gate_dst (N := 43) rfl ?_); refine Kd.R_lit (Kd.int .i64) _ 3 ?hg (N := 43) ?hd (xs := ([t282] : List Int)) (inner := [.int .i64 t282]) (ok := fun _ => True) (okp := fun _ => True) ?hr ?hp (fun _ hk => hk) trivial (Below.refl _ _) (Nat.le_refl _) (by simp) ?_; (case hd => rfl); (case hg => rfl); (case hr => first | (go_simp; done) | (go_simp; rfl)); (case hp => exact (Reps.one (show Kd.M (Kd.int .i64) _ _ _ t282 [.int .i64 t282] from rfl) (Reps.none _ _))); intro v284 w40 ho41 hb hg_ hnew_; clear hg_ hnew_; (first | rw [← Ny283.out] at ho41 | (simp only [Int.reduceToNat] at ho41; rw [← Ny283.out] at ho41)); have n0_ := Aside0.mk (Kd.R_lower ho41 (below_size (zB5_4))); have n1_ := Aside0.mk (zb5 BK277.out hb); have n2_ := Aside0.mk (below_step (zB5_4) hb); clear BK277; clear HB; have HO285 := n0_; have BK277 := n1_; have HB := n2_; clear n0_ n1_ n2_; clear hb ho41; obtain ⟨hcz42_0, hcz42_1, hcz42_2, hcz42_3, hcz42_4, hfz42_0, hfz42_1, hfz42_2, hfz42_3, hfz42_4⟩ := zc5_5 (w := w40) BK277.out; obtain ⟨Ao43, co43, eo43⟩ := Kd.R_slice HO285.out; subst eo43) | ((with_reducible refine gate_callee (f := 51) rfl ?_); refine goesL_ (some 54) rfl rfl Try.func51 (by kernel_rfl) rfl #[.slice Ao43 y283.length co43] rfl zT5 ?_; (with_reducible refine (slices_Sort_int_int.calls (fun k_ => some k_ = (.slice Ao43 y283.length co43 : Value).ownBlock) (.slice Ao43 y283.length co43) y283 t294 w _ ?side1 ?side2 A37.out).mono ?_); (case side1 => repeat (first | (with_reducible first | exact HB.out | apply below_alloc | apply pw_below_drewN | apply below_drew1 | refine below_set ?_ GE277.out) | exact HB.out)); (case side2 => exact Kd.R_tight rfl HO285.out); rintro e w44 ⟨rfl, hy0, hb, hkp⟩; refine ⟨_, rfl, ?_⟩; have n0_ := Aside0.mk (blk_kept (zK5 BK277.out) hkp (fun hs_ => (fun e_ => (Kd.R_ne HO285.out BK277.out (by decide)) e_) hs_)); have n1_ := Aside0.mk (Kd.R_reok rfl hy0 (fun k_ e_ => HO285.out.1 k_ e_)); have n2_ := Aside0.mk (hb); clear BK277; clear HO285; clear HB; have BK277 := n0_; have HO285 := n1_; have HB := n2_; clear n0_ n1_ n2_; (try clear hb); (try clear hkp); (try clear hy0)) | ((with_reducible refine gate_callee (f := 59) rfl ?_); refine goesL_ (some 56) rfl rfl Try.func59 (by kernel_rfl) rfl #[.slice Ao43 y283.length co43] rfl zT5 ?_; (with_reducible refine (slices_Compact_int_int.calls (fun k_ => some k_ = (.slice Ao43 y283.length co43 : Value).ownBlock) (.slice Ao43 y283.length co43) t294 t295 w _ ?side1 ?side2 A38.out).mono ?_); (case side1 => repeat (first | (with_reducible first | exact HB.out | apply below_alloc | apply pw_below_drewN | apply below_drew1 | refine below_set ?_ GE277.out) | exact HB.out)); (case side2 => exact Kd.R_tight rfl HO285.out); rintro e w45 ⟨v296, rfl, ho0, hb, hkp⟩; refine ⟨_, rfl, ?_⟩; have n0_ := Aside0.mk (blk_kept (zK5 BK277.out) hkp (fun hs_ => (fun e_ => (Kd.R_ne HO285.out BK277.out (by decide)) e_) hs_)); have n1_ := Aside0.mk (Kd.R_mono (ok' := fun k_ => True) ho0 (fun k_ hk_ => trivial)); have n2_ := Aside0.mk (hb); clear BK277; clear HB; clear HO285; have BK277 := n0_; have HO297 := n1_; have HB := n2_; clear n0_ n1_ n2_; (try clear hb); (try clear hkp); (try clear ho0)))
            go_ret
            exact ⟨_, zE5, zR5 HO297.out, zB5_4⟩
          rw [if_pos c24] at H
          have c24b0 : (t271 == 7) = true := beq_iff_eq.mpr c24
          have c24b1 : (t271 != 7) = false := bne_eq_false_iff_eq.mpr c24
          clear c24
          replace H := Option.bind_eq_some_iff.mp H
          obtain ⟨t286, A250, H⟩ := H
          replace H : (if y283.length < 17592186044416 then ((slices_Sort_int_int.f (y283 ++ [t286])).bind fun t290 => ((slices_Compact_int_int.f t290).bind fun t291 => (some t291))) else (none)) = some r := H
          have A25 := Aside0.mk A250
          clear A250
          by_cases c26 : y283.length < 17592186044416
          rotate_left
          · rw [if_neg c26] at H
            exact absurd H (by simp)
          rw [if_pos c26] at H
          have LMc26 := Aside0.mk c26
          clear c26
          obtain ⟨y287, hy287⟩ : ∃ y_ : List Int, y_ = (y283 ++ [t286]) := ⟨_, rfl⟩
          replace H : ((slices_Sort_int_int.f y287).bind fun t290 => ((slices_Compact_int_int.f t290).bind fun t291 => (some t291))) = some r := by first | (rw [hy287]; with_reducible exact H) | (have H2_ := (Option.bind_some _ _).symm.trans H; rw [hy287]; with_reducible exact H2_) | (have H2_ := (Option.bind_some _ _).symm.trans H; with_reducible exact H2_) | with_reducible exact H | (rw [hy287]; exact H) | exact H
          have Ny287 := Aside0.mk hy287
          clear hy287
          replace H := Option.bind_eq_some_iff.mp H
          obtain ⟨t290, A270, H⟩ := H
          replace H : ((slices_Compact_int_int.f t290).bind fun t291 => (some t291)) = some r := H
          have A27 := Aside0.mk A270
          clear A270
          replace H := Option.bind_eq_some_iff.mp H
          obtain ⟨t291, A280, H⟩ := H
          replace H : (some t291) = some r := H
          have A28 := Aside0.mk A280
          clear A280
          obtain rfl := Option.some.inj H
          obtain ⟨hcz29_0, hcz29_1, hcz29_2, hcz29_3, hcz29_4, hfz29_0, hfz29_1, hfz29_2, hfz29_3, hfz29_4⟩ := zc5_5 (w := wc) BK277.out
          go_wp2_with (first | ((with_reducible refine gate_callee (f := 58) rfl ?_); refine goesL_ (some 42) rfl rfl Try.func58 (by kernel_rfl) rfl #[.int .i64 (wrap64 (a1 + 1))] rfl zT5 ?_; (with_reducible refine (impl_address.calls (wrap64 (a1 + 1)) t282 _ A23.out).mono ?_); rintro e w' ⟨rfl, ⟨nd, rfl⟩⟩; refine ⟨_, rfl, ?_⟩) | ((with_reducible refine gate_dst (N := 43) rfl ?_); refine Kd.R_lit (Kd.int .i64) _ 3 ?hg (N := 43) ?hd (xs := ([t282] : List Int)) (inner := [.int .i64 t282]) (ok := fun _ => True) (okp := fun _ => True) ?hr ?hp (fun _ hk => hk) trivial (Below.refl _ _) (Nat.le_refl _) (by simp) ?_; (case hd => rfl); (case hg => rfl); (case hr => first | (go_simp; done) | (go_simp; rfl)); (case hp => exact (Reps.one (show Kd.M (Kd.int .i64) _ _ _ t282 [.int .i64 t282] from rfl) (Reps.none _ _))); intro v284 w30 ho31 hb hg_ hnew_; clear hg_ hnew_; (first | rw [← Ny283.out] at ho31 | (simp only [Int.reduceToNat] at ho31; rw [← Ny283.out] at ho31)); have n0_ := Aside0.mk (Kd.R_lower ho31 (below_size (zB5_4))); have n1_ := Aside0.mk (zb5 BK277.out hb); have n2_ := Aside0.mk (below_step (zB5_4) hb); clear BK277; clear HB; have HO285 := n0_; have BK277 := n1_; have HB := n2_; clear n0_ n1_ n2_; clear hb ho31; obtain ⟨hcz32_0, hcz32_1, hcz32_2, hcz32_3, hcz32_4, hfz32_0, hfz32_1, hfz32_2, hfz32_3, hfz32_4⟩ := zc5_5 (w := w30) BK277.out) | ((with_reducible refine gate_callee (f := 58) rfl ?_); refine goesL_ (some 50) rfl rfl Try.func58 (by kernel_rfl) rfl #[.int .i64 t275] rfl zT5 ?_; (with_reducible refine (impl_address.calls t275 t286 _ A25.out).mono ?_); rintro e w' ⟨rfl, ⟨nd, rfl⟩⟩; refine ⟨_, rfl, ?_⟩) | ((with_reducible refine gate_builtin (b := .append) (xs := #[.tmp 47, .tmp 51]) rfl ?_); at_builtin; refine Kd.R_append (Kd.int .i64) (w0 := w) w.heap.size rfl (.tmp 47) (.tmp 51) 24 3 (.int .i64 0) 8 rfl Try.underlying24 info3 rfl (by decide) (by omega) v284 y283 t286 [.int .i64 t286] (fun _ => True) (fun _ => False) rfl rfl ?aP (fun _ hk => hk.elim) ?aF ?aO ?aB ?aS ?aL ?_; (case aP => exact rfl); (case aB => exact (zB5_4)); (case aF => exact (fun _ _ => trivial)); (case aO => exact (zR5 HO285.out)); (case aS => exact (below_size (zB5_4))); (case aL => have := LMc26.out; omega); intro v288 w33 ho hb hg hat; rw [← Ny287.out] at ho; have n0_ := Aside0.mk (zg5 BK277.out hg (Kd.R_ne HO285.out BK277.out (by decide))); have n1_ := Aside0.mk (hb); have n2_ := Aside0.mk (ho); clear BK277; clear HB; clear HO285; have BK277 := n0_; have HB := n1_; have HO289 := n2_; clear n0_ n1_ n2_; clear ho hb hg hat; obtain ⟨Ao34, co34, eo34⟩ := Kd.R_slice HO289.out; subst eo34) | ((with_reducible refine gate_callee (f := 51) rfl ?_); refine goesL_ (some 54) rfl rfl Try.func51 (by kernel_rfl) rfl #[.slice Ao34 y287.length co34] rfl zT5 ?_; (with_reducible refine (slices_Sort_int_int.calls (fun k_ => some k_ = (.slice Ao34 y287.length co34 : Value).ownBlock) (.slice Ao34 y287.length co34) y287 t290 w _ ?side1 ?side2 A27.out).mono ?_); (case side1 => repeat (first | (with_reducible first | exact HB.out | apply below_alloc | apply pw_below_drewN | apply below_drew1 | refine below_set ?_ GE277.out) | exact HB.out)); (case side2 => exact Kd.R_tight rfl HO289.out); rintro e w35 ⟨rfl, hy0, hb, hkp⟩; refine ⟨_, rfl, ?_⟩; have n0_ := Aside0.mk (blk_kept (zK5 BK277.out) hkp (fun hs_ => (fun e_ => (Kd.R_ne HO289.out BK277.out (by decide)) e_) hs_)); have n1_ := Aside0.mk (Kd.R_reok rfl hy0 (fun k_ e_ => HO289.out.1 k_ e_)); have n2_ := Aside0.mk (hb); clear BK277; clear HO289; clear HB; have BK277 := n0_; have HO289 := n1_; have HB := n2_; clear n0_ n1_ n2_; (try clear hb); (try clear hkp); (try clear hy0)) | ((with_reducible refine gate_callee (f := 59) rfl ?_); refine goesL_ (some 56) rfl rfl Try.func59 (by kernel_rfl) rfl #[.slice Ao34 y287.length co34] rfl zT5 ?_; (with_reducible refine (slices_Compact_int_int.calls (fun k_ => some k_ = (.slice Ao34 y287.length co34 : Value).ownBlock) (.slice Ao34 y287.length co34) t290 t291 w _ ?side1 ?side2 A28.out).mono ?_); (case side1 => repeat (first | (with_reducible first | exact HB.out | apply below_alloc | apply pw_below_drewN | apply below_drew1 | refine below_set ?_ GE277.out) | exact HB.out)); (case side2 => exact Kd.R_tight rfl HO289.out); rintro e w36 ⟨v292, rfl, ho0, hb, hkp⟩; refine ⟨_, rfl, ?_⟩; have n0_ := Aside0.mk (blk_kept (zK5 BK277.out) hkp (fun hs_ => (fun e_ => (Kd.R_ne HO289.out BK277.out (by decide)) e_) hs_)); have n1_ := Aside0.mk (Kd.R_mono (ok' := fun k_ => True) ho0 (fun k_ hk_ => trivial)); have n2_ := Aside0.mk (hb); clear BK277; clear HB; clear HO289; have BK277 := n0_; have HO293 := n1_; have HB := n2_; clear n0_ n1_ n2_; (try clear hb); (try clear hkp); (try clear ho0)))
          go_ret
          exact ⟨_, zE5, zR5 HO293.out, zB5_4⟩

/-! ### slices_Index_int_int: function 88 -/
def slices_Index_int_int.l0 : Nat → List Int → Int → Int → Int → Option (Int)
  | 0, _, _, _, _ => none
  | k + 1, x0, x1, x7, x8 => if x8 < x7 then (if 0 ≤ x8 then (if x8 < (x0.length : Int) then (if x1 = (rd x0 x8) then (some x8) else (slices_Index_int_int.l0 k x0 x1 x7 (wrap64 (x8 + 1)))) else (none)) else (none)) else (some (-1))
def slices_Index_int_int.f (k : Nat) (l0 : List Int) (a1 : Int) : Option (Int) := slices_Index_int_int.l0 k l0 a1 (l0.length : Int) 0
theorem slices_Index_int_int.mono_l : ∀ k, (∀ y0 y1 y2 y3, LeO (slices_Index_int_int.l0 k y0 y1 y2 y3) (slices_Index_int_int.l0 (k + 1) y0 y1 y2 y3))
  | 0 => fun _ _ _ _ r h => by simp [slices_Index_int_int.l0] at h
  | k + 1 => by
    have ih0 := slices_Index_int_int.mono_l k
    · intro y0 y1 y2 y3
      unfold slices_Index_int_int.l0
      repeat' first
      | (with_reducible exact ih0 _ _ _ _)
      | (with_reducible exact LeO.refl _)
      | (with_reducible exact LeO.none _)
      | (with_reducible refine LeO.ite ?_ ?_)
      | (with_reducible refine LeO.bind ?_ (fun _ => ?_))
      | exact ih0 _ _ _ _
      | exact LeO.none _
      | refine LeO.ite ?_ ?_
      | refine LeO.bind ?_ (fun _ => ?_)
theorem slices_Index_int_int.mono : ∀ a0 a1 k, LeO (slices_Index_int_int.f k a0 a1) (slices_Index_int_int.f (k + 1) a0 a1) := by
  intro a0 a1 k
  have ih0 := slices_Index_int_int.mono_l k
  unfold slices_Index_int_int.f
  repeat' first
      | (with_reducible exact ih0 _ _ _ _)
      | (with_reducible exact LeO.refl _)
      | (with_reducible exact LeO.none _)
      | (with_reducible refine LeO.ite ?_ ?_)
      | (with_reducible refine LeO.bind ?_ (fun _ => ?_))
      | exact ih0 _ _ _ _
      | exact LeO.none _
      | refine LeO.ite ?_ ?_
      | refine LeO.bind ?_ (fun _ => ?_)
set_option maxHeartbeats 8000000 in
set_option maxRecDepth 100000 in
theorem slices_Index_int_int.calls (k : Nat) (A0 : Option Addr) (c0 : Nat) (l0 : List Int) (a1 : Int) (r : Int) (w : World) (hr0 : Kd.C (Kd.int .i64) w A0 l0.length l0) (hc0 : l0.length ≤ c0) (h : slices_Index_int_int.f k l0 a1 = some r) :
    Calls Try.prog 88 #[.slice A0 l0.length c0, .int .i64 a1] w fun e w' => e = .returned (.int .i64 r) ∧ Drawn0 w w' := by
  have HR0 := Aside0.mk hr0
  have HC0 := Aside0.mk hc0
  clear hr0 hc0
  have H : (slices_Index_int_int.l0 k l0 a1 (l0.length : Int) 0) = some r := h
  clear h
  have H' := Aside0.mk H
  clear H
  go_enter Try.func88, Try.ntmps88
  go_wp2
  go_loopg [8] k (fun kq v8 w' => ∃ (x8_1 : Int), v8 = .int .i64 x8_1 ∧ Aside0 (slices_Index_int_int.l0 kq l0 a1 (l0.length : Int) x8_1 = some r) ∧ Aside0 (kq ≤ k) ∧ Drawn0 w w')
  case atStart => exact ⟨(0), (by first | rfl | (simp; done) | (simp [*]; done)), H', ⟨Nat.le_refl _⟩, by repeat (first | exact Drawn0.refl _ | apply Drawn0.step)⟩
  case round =>
    clear H'
    try clear p2
    obtain ⟨x8_1, rfl, HA, HK1, ⟨m1, rfl⟩⟩ := hrel
    cases gk with
    | zero => exact absurd HA.out (by simp [slices_Index_int_int.l0])
    | succ k1 =>
      have H := HA.out
      clear HA
      simp only [slices_Index_int_int.l0] at H
      by_cases c3 : x8_1 < (l0.length : Int)
      rotate_left
      · rw [if_neg c3] at H
        have c3b0 : decide (x8_1 < (l0.length : Int)) = false := decide_eq_false c3
        clear c3
        obtain rfl := Option.some.inj H
        go_wp2
        go_ret
        exact ⟨by first | rfl | (simp; done) | (simp [*]; done), by repeat (first | exact Drawn0.refl _ | apply Drawn0.step)⟩
      rw [if_pos c3] at H
      have c3b0 : decide (x8_1 < (l0.length : Int)) = true := decide_eq_true c3
      clear c3
      by_cases c4 : 0 ≤ x8_1
      rotate_left
      · rw [if_neg c4] at H
        exact absurd H (by simp)
      rw [if_pos c4] at H
      have c4b0 : decide (0 ≤ x8_1) = true := decide_eq_true c4
      clear c4
      by_cases c5 : x8_1 < (l0.length : Int)
      rotate_left
      · rw [if_neg c5] at H
        exact absurd H (by simp)
      rw [if_pos c5] at H
      have c5b0 : decide (x8_1 < (l0.length : Int)) = true := decide_eq_true c5
      clear c5
      by_cases c6 : a1 = (rd l0 x8_1)
      · rw [if_pos c6] at H
        have c6b0 : (a1 == (rd l0 x8_1)) = true := beq_iff_eq.mpr c6
        have c6b1 : (a1 != (rd l0 x8_1)) = false := bne_eq_false_iff_eq.mpr c6
        clear c6
        obtain rfl := Option.some.inj H
        have p298 : 0 ≤ (x8_1 : Int) := zA5
        have q298 : x8_1 < (l0.length : Int) := zA5
        obtain ⟨ad298, e298, hx298_0⟩ := Kd.at_int HR0.out x8_1 p298 q298
        cases e298
        replace p298 := eq_true p298
        replace q298 := eq_true q298
        go_wp2
        go_ret
        exact ⟨by first | rfl | (simp; done) | (simp [*]; done), by repeat (first | exact Drawn0.refl _ | apply Drawn0.step)⟩
      rw [if_neg c6] at H
      have c6b0 : (a1 == (rd l0 x8_1)) = false := beq_eq_false_iff_ne.mpr c6
      have c6b1 : (a1 != (rd l0 x8_1)) = true := bne_iff_ne.mpr c6
      have H' := Aside0.mk H
      clear H
      have p298 : 0 ≤ (x8_1 : Int) := zA5
      have q298 : x8_1 < (l0.length : Int) := zA5
      obtain ⟨ad298, e298, hx298_0⟩ := Kd.at_int HR0.out x8_1 p298 q298
      cases e298
      replace p298 := eq_true p298
      replace q298 := eq_true q298
      go_wp2
      go_roundg k1
      case measure => have := HK1.out; omega
      case rel => exact ⟨(wrap64 (x8_1 + 1)), (by first | rfl | (simp; done) | (simp [*]; done)), H', ⟨by have := HK1.out; omega⟩, by repeat (first | exact Drawn0.refl _ | apply Drawn0.step)⟩

/-! ### slices_Contains_int_int: function 50 -/
def slices_Contains_int_int.f (k : Nat) (l0 : List Int) (a1 : Int) : Option (Bool) := (slices_Index_int_int.f k l0 a1).bind fun t299 => (some (decide (t299 ≥ 0)))
theorem slices_Contains_int_int.mono : ∀ a0 a1 k, LeO (slices_Contains_int_int.f k a0 a1) (slices_Contains_int_int.f (k + 1) a0 a1) := by
  intro a0 a1 k
  unfold slices_Contains_int_int.f
  repeat' first
      | (with_reducible exact slices_Index_int_int.mono _ _ _)
      | (with_reducible exact LeO.refl _)
      | (with_reducible exact LeO.none _)
      | (with_reducible refine LeO.ite ?_ ?_)
      | (with_reducible refine LeO.bind ?_ (fun _ => ?_))
      | exact slices_Index_int_int.mono _ _ _
      | exact LeO.none _
      | refine LeO.ite ?_ ?_
      | refine LeO.bind ?_ (fun _ => ?_)
set_option maxHeartbeats 8000000 in
set_option maxRecDepth 100000 in
theorem slices_Contains_int_int.calls (k : Nat) (A0 : Option Addr) (c0 : Nat) (l0 : List Int) (a1 : Int) (r : Bool) (w : World) (hr0 : Kd.C (Kd.int .i64) w A0 l0.length l0) (hc0 : l0.length ≤ c0) (h : slices_Contains_int_int.f k l0 a1 = some r) :
    Calls Try.prog 50 #[.slice A0 l0.length c0, .int .i64 a1] w fun e w' => e = .returned (.bool r) ∧ Drawn0 w w' := by
  have HR0 := Aside0.mk hr0
  have HC0 := Aside0.mk hc0
  clear hr0 hc0
  have H : ((slices_Index_int_int.f k l0 a1).bind fun t299 => (some (decide (t299 ≥ 0)))) = some r := h
  clear h
  replace H := Option.bind_eq_some_iff.mp H
  obtain ⟨t299, A30, H⟩ := H
  replace H : (some (decide (t299 ≥ 0))) = some r := H
  have A3 := Aside0.mk A30
  clear A30
  obtain rfl := Option.some.inj H
  go_enter Try.func50, Try.ntmps50
  go_wp2_with (first | ((with_reducible refine gate_callee (f := 88) rfl ?_); refine goesL_ (some 7) rfl rfl Try.func88 (by kernel_rfl) rfl #[.slice A0 l0.length c0, .int .i64 a1] rfl zT5 ?_; (with_reducible refine (slices_Index_int_int.calls k _ _ l0 a1 t299 _ ?side1 ?side2 A3.out).mono ?_); (case side1 => exact zC5 HR0.out); (case side2 => exact HC0.out); rintro e w' ⟨rfl, ⟨nd, rfl⟩⟩; refine ⟨_, rfl, ?_⟩))
  go_ret
  exact ⟨by first | rfl | (simp; done) | (simp [*]; done), by repeat (first | exact Drawn0.refl _ | apply Drawn0.step)⟩

end Go.Proofs.Ytajhfpeijagpnaa.PFnFlows
