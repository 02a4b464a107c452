-- made by wip/tools/myprint.py out of the seat's translation
import Derived.Test.YtmfhfnpinmlloaaPFnGoesx0
import Derived.Test.YtmfhfnpinmlloaaPFnGoesx5
import Derived.Test.YtmfhfnpinmlloaaPFnGoesx6
import Derived.Test.YtmfhfnpinmlloaaPFnGoesx7
namespace Go.Proofs.Ytmfhfnpinmlloaa.PFnGoes
open Go.RowKit Go.Proofs.YtmfhfnpinmlloaaW.PrintWords Go.Proofs.YtmfhfnpinmlloaaW.PrintLast Go.Proofs.YtmfhfnpinmlloaaW.PrintMore
attribute [local go_sem] max2_int min2_int max_two min_two max_three min_three max_four min_four   -- for this text's walks alone
set_option linter.unusedVariables false
set_option linter.unusedSimpArgs false
theorem zc8_3 {w : World} {g : Nat} {a0 a1 a2 : Value} {t : TypeId} (h : w.heap[g]? = some (.cells #[a0, a1, a2] t (0, 0))) : w.cell? ⟨g, 0, none⟩ = some a0 ∧ w.cell? ⟨g, 1, none⟩ = some a1 ∧ w.cell? ⟨g, 2, none⟩ = some a2 ∧ w.frozen? ⟨g, 0, none⟩ = false ∧ w.frozen? ⟨g, 1, none⟩ = false ∧ w.frozen? ⟨g, 2, none⟩ = false := ⟨(blk_cell h 0).trans rfl, (blk_cell h 1).trans rfl, (blk_cell h 2).trans rfl, blk_frozen h 0, blk_frozen h 1, blk_frozen h 2⟩
theorem zc8_5 {w : World} {g : Nat} {a0 a1 a2 a3 a4 : Value} {t : TypeId} (h : w.heap[g]? = some (.cells #[a0, a1, a2, a3, a4] t (0, 0))) : w.cell? ⟨g, 0, none⟩ = some a0 ∧ w.cell? ⟨g, 1, none⟩ = some a1 ∧ w.cell? ⟨g, 2, none⟩ = some a2 ∧ w.cell? ⟨g, 3, none⟩ = some a3 ∧ w.cell? ⟨g, 4, none⟩ = some a4 ∧ w.frozen? ⟨g, 0, none⟩ = false ∧ w.frozen? ⟨g, 1, none⟩ = false ∧ w.frozen? ⟨g, 2, none⟩ = false ∧ w.frozen? ⟨g, 3, none⟩ = false ∧ w.frozen? ⟨g, 4, none⟩ = false := ⟨(blk_cell h 0).trans rfl, (blk_cell h 1).trans rfl, (blk_cell h 2).trans rfl, (blk_cell h 3).trans rfl, (blk_cell h 4).trans rfl, blk_frozen h 0, blk_frozen h 1, blk_frozen h 2, blk_frozen h 3, blk_frozen h 4⟩
abbrev zq8_0 : Array Bool := #[false, false, false, false, false, false, false, false, false, false]
abbrev zq8_1 : Array Bool := #[true, false, false, false, false, false, false, false, false, false]
abbrev zq8_2 : Array Bool := #[true, false, true, false, false, false, false, false, false, false]
abbrev zq8_3 : Array Bool := #[true, false, true, false, true, false, false, false, false, false]
abbrev zq8_4 : Array Bool := #[true, false, true, false, true, true, false, false, false, false]
abbrev zq8_5 : Array Bool := #[true, false, true, false, true, true, true, false, false, false]
abbrev zq8_6 : Array Bool := #[true, true, true, false, true, true, true, false, false, false]
abbrev zq8_7 : Array Bool := #[true, true, true, true, true, true, true, false, false, false]
abbrev zq8_8 : Array Bool := #[true, true, true, true, true, true, true, true, false, false]
abbrev zq8_9 : Array Bool := #[true, true, true, true, true, true, true, true, true, false]
abbrev zq8_10 : Array Bool := #[true, true, true, true, true, true, true, true, true, true]
theorem zR8 {p q : Prop} (x : q) (h : q → p := by intro h; (with_reducible repeat (first | apply Kd.R_alloc | apply Kd.R_drewN | apply Kd.R_drew)); exact h) : p := h x
theorem zK8 {p q : Prop} (x : q) (h : q → p := by intro h; (with_reducible repeat (first | refine blk_drewN ?_ _ | refine blk_drew ?_ | refine blk_alloc ?_ _)); exact h) : p := h x
theorem zA8 {p : Prop} [Decidable p] (h : decide p = true := by first | (with_reducible assumption) | assumption) : p := of_decide_eq_true h
theorem zT8 {p : Prop} (h : p := by (try simp only [List.map_toArray, List.map_cons, List.map_nil]); first | done | rfl | (simp only [List.length_drop, List.length_take]; rfl)) : p := h
theorem zC8 {p q : Prop} (x : q) (h : q → p := by intro h; repeat (first | exact h | (with_reducible refine Kd.C_alloc ?_ _) | (with_reducible refine Kd.C_drewN ?_ _) | (with_reducible refine Kd.C_drew ?_))) : p := h x
theorem zb8 {W w w1 : World} {g : Nat} {o : Obj} (x : W.heap[g]? = some o) (hb : Below w.heap.size w w1) (h : W.heap[g]? = some o → w.heap[g]? = some o := by intro h; (with_reducible repeat (first | refine blk_drewN ?_ _ | refine blk_drew ?_ | refine blk_alloc ?_ _)); exact h) : w1.heap[g]? = some o := blk_below (h x) hb
theorem zg8 {W w w1 : World} {g : Nat} {o : Obj} {row : Option Nat} (x : W.heap[g]? = some o) (hg : w.grownBy w1 row) (hne : some g ≠ row) (h : W.heap[g]? = some o → w.heap[g]? = some o := by intro h; (with_reducible repeat (first | refine blk_drewN ?_ _ | refine blk_drew ?_ | refine blk_alloc ?_ _)); exact h) : w1.heap[g]? = some o := blk_grown (h x) hg hne
theorem zn8 {W w : World} {g g' : Nat} {o : Obj} (x : W.heap[g]? = some o) (hg : g' = w.heap.size) (h : W.heap[g]? = some o → w.heap[g]? = some o := by intro h; (with_reducible repeat (first | refine blk_drewN ?_ _ | refine blk_drew ?_ | refine blk_alloc ?_ _)); exact h) : g ≠ g' := by rw [hg]; exact Nat.ne_of_lt (blk_lt (h x))
theorem zm8 {W w : World} {g g' : Nat} {o : Obj} (x : W.heap[g]? = some o) (hg : g' = w.heap.size) (h : W.heap[g]? = some o → w.heap[g]? = some o := by intro h; (with_reducible repeat (first | refine blk_drewN ?_ _ | refine blk_drew ?_ | refine blk_alloc ?_ _)); exact h) : g' ≠ g := by rw [hg]; exact Nat.ne_of_gt (blk_lt (h x))
theorem zP8 {p q : Prop} (x : q) (h : q → p := by intro h; (with_reducible repeat (first | refine blk_drewN ?_ _ | refine blk_drew ?_ | refine blk_alloc ?_ _)); exact h) : p := h x
theorem zV8 {a b : Act} (h : a = b := by simp only [Act.put, List.setIfInBounds_toArray, List.set_cons_zero, List.set_cons_succ, i64_w, i32_w]; rfl) : a = b := h
theorem zE8 {p : Prop} (h : p := by first | rfl | (simp [errW_none, errW_some] <;> rfl) | (simp [*, errW_none, errW_some] <;> rfl)) : p := h
theorem zB8_0 {p : Prop} (h : p := by repeat (first | (with_reducible first | exact HB.out | apply below_alloc | apply pw_below_drewN | apply below_drew1) | exact HB.out)) : p := h
theorem zB8_1 {p : Prop} (h : p := by repeat (first | (with_reducible first | exact HB.out | apply below_alloc | apply pw_below_drewN | apply below_drew1 | refine below_set ?_ GE393.out) | exact HB.out)) : p := h
theorem zB8_2 {p : Prop} (h : p := by repeat (first | (with_reducible first | exact HB.out | apply below_alloc | apply pw_below_drewN | apply below_drew1 | refine below_set ?_ GE393.out | refine below_set ?_ GE394.out) | exact HB.out)) : p := h
theorem zB8_3 {p : Prop} (h : p := by repeat (first | (with_reducible first | exact HB.out | apply below_alloc | apply pw_below_drewN | apply below_drew1 | refine below_set ?_ GE393.out | refine below_set ?_ GE394.out | refine below_set ?_ GE395.out) | exact HB.out)) : p := h
theorem zB8_4 {p : Prop} (h : p := by repeat (first | (with_reducible first | exact HB.out | apply below_alloc | apply pw_below_drewN | apply below_drew1 | refine below_set ?_ GB80.out | refine below_set ?_ GE393.out | refine below_set ?_ GE394.out | refine below_set ?_ GE395.out) | exact HB.out)) : p := h
theorem zB8_5 {p : Prop} (h : p := by repeat (first | (with_reducible first | exact HB.out | apply below_alloc | apply pw_below_drewN | apply below_drew1 | refine below_set ?_ GB87.out | refine below_set ?_ GE393.out | refine below_set ?_ GE394.out | refine below_set ?_ GE395.out) | exact HB.out)) : p := h
theorem zB8_6 {p : Prop} (h : p := by repeat (first | (with_reducible first | exact HB.out | apply below_alloc | apply pw_below_drewN | apply below_drew1 | refine below_set ?_ GB94.out | refine below_set ?_ GE393.out | refine below_set ?_ GE394.out | refine below_set ?_ GE395.out) | exact HB.out)) : p := h

/-! ### impl_Work: function 40 -/
mutual
def impl_Work.j0 : Nat → Int → Bool → List Int → Int → Int → Int → Int → Int → Int → Int → Option (List Int × Int × Int × Int)
 | 0, _, _, _, _, _, _, _, _, _, _ => none
 | k + 1, x2, x26, x394000, x394001, x394002, x395000, x395001, x395002, x395003, x395004 => if x26 = true then (some (x394000, x394001, x394002, (-1))) else ((impl_InsOk.f x395000 x395001 x395002 x395003 x395004).bind fun t403 => (impl_Work.j1 k x2 (!t403) x394000 x394001 x394002 x395000 x395001 x395002 x395003 x395004))
def impl_Work.j1 : Nat → Int → Bool → List Int → Int → Int → Int → Int → Int → Int → Int → Option (List Int × Int × Int × Int)
 | 0, _, _, _, _, _, _, _, _, _, _ => none
 | k + 1, x2, x30, x394000, x394001, x394002, x395000, x395001, x395002, x395003, x395004 => if x30 = true then (some (x394000, x394001, 2, (-1))) else (if 0 ≤ x395002 then (if x395002 < (x394000.length : Int) then (if 0 ≤ x395003 then (if x395003 < (x394000.length : Int) then ((impl_address.f (wrap64 (x394001 + 1))).bind fun t406 => (impl_Work.j2 k x2 (rd x394000 x395002) (rd x394000 x395003) (-1) t406 x395000 x394000 x394001 x394002 x395000 x395001 x395002 x395003 x395004)) else (none)) else (none)) else (none)) else (none))
def impl_Work.j2 : Nat → Int → Int → Int → Int → Int → Int → List Int → Int → Int → Int → Int → Int → Int → Int → Option (List Int × Int × Int × Int)
 | 0, _, _, _, _, _, _, _, _, _, _, _, _, _, _ => none
 | k + 1, x2, x8, x9, x10, x11, x50, x394000, x394001, x394002, x395000, x395001, x395002, x395003, x395004 => if x50 = 1 then (if 0 ≤ x395001 then (if x395001 < (x394000.length : Int) then (impl_Work.j3 k x10 x11 (x394000.set (x395001 : Int).toNat x395004) x394001 x394002) else (none)) else (none)) else (if x50 = 2 then ((impl_wrapped.f (wrap64 (x8 + x9))).bind fun t408 => (if 0 ≤ x395001 then (if x395001 < (x394000.length : Int) then (impl_Work.j3 k x10 x11 (x394000.set (x395001 : Int).toNat t408) x394001 x394002) else (none)) else (none))) else (if x50 = 10 then ((impl_wrapped.f (wrap64 (x8 - x9))).bind fun t410 => (if 0 ≤ x395001 then (if x395001 < (x394000.length : Int) then (impl_Work.j3 k x10 x11 (x394000.set (x395001 : Int).toNat t410) x394001 x394002) else (none)) else (none))) else (if x50 = 3 then ((impl_wrapped.f (wrap64 (x8 + x395004))).bind fun t412 => (if 0 ≤ x395001 then (if x395001 < (x394000.length : Int) then (impl_Work.j3 k x10 x11 (x394000.set (x395001 : Int).toNat t412) x394001 x394002) else (none)) else (none))) else (if x50 = 4 then (if 0 ≤ x395001 then (if x395001 < (x394000.length : Int) then (impl_Work.j3 k x10 x11 (x394000.set (x395001 : Int).toNat x2) x394001 x394002) else (none)) else (none)) else (if x50 = 5 then (impl_Work.j3 k x9 x11 x394000 x394001 x394002) else (if x50 = 6 then (if 0 ≤ x395001 then (if x395001 < (x394000.length : Int) then ((impl_wrapped.f (wrap64 (x2 + x9))).bind fun t416 => (impl_Work.j3 k t416 x11 (x394000.set (x395001 : Int).toNat x2) x394001 x394002)) else (none)) else (none)) else (if x50 = 7 then (if x8 = 0 then ((impl_address.f x395004).bind fun t417 => (impl_Work.j3 k x10 t417 x394000 x394001 x394002)) else (impl_Work.j3 k x10 x11 x394000 x394001 x394002)) else (if x50 = 8 then ((impl_address.f x395004).bind fun t418 => (impl_Work.j3 k x10 t418 x394000 x394001 x394002)) else (if x50 = 9 then (impl_Work.j3 k x10 x394001 x394000 x394001 1) else (impl_Work.j3 k x10 x11 x394000 x394001 x394002))))))))))
def impl_Work.j3 : Nat → Int → Int → List Int → Int → Int → Option (List Int × Int × Int × Int)
 | 0, _, _, _, _, _ => none
 | k + 1, x10, x11, x394000, x394001, x394002 => some (x394000, x11, x394002, x10)
end
def impl_Work.f (k : Nat) (l0_0 : List Int) (a0_1 : Int) (a0_2 : Int) (a1_0 : Int) (a1_1 : Int) (a1_2 : Int) (a1_3 : Int) (a1_4 : Int) (a2 : Int) : Option (List Int × Int × Int × Int) := (impl_copyHart.f l0_0 a0_1 a0_2).bind fun bt396 => ((impl_HartOk.f k bt396.1 bt396.2.1 bt396.2.2).bind fun t401 => (if t401 = true then (if bt396.2.2 = 0 then ((impl_isWord.f a2).bind fun t402 => (impl_Work.j0 k a2 (!t402) bt396.1 bt396.2.1 bt396.2.2 a1_0 a1_1 a1_2 a1_3 a1_4)) else (impl_Work.j0 k a2 true bt396.1 bt396.2.1 bt396.2.2 a1_0 a1_1 a1_2 a1_3 a1_4)) else (impl_Work.j0 k a2 true bt396.1 bt396.2.1 bt396.2.2 a1_0 a1_1 a1_2 a1_3 a1_4)))
theorem impl_Work.mono_l : ∀ k, (∀ y0 y1 y2 y3 y4 y5 y6 y7 y8 y9, LeO (impl_Work.j0 k y0 y1 y2 y3 y4 y5 y6 y7 y8 y9) (impl_Work.j0 (k + 1) y0 y1 y2 y3 y4 y5 y6 y7 y8 y9)) ∧ (∀ y0 y1 y2 y3 y4 y5 y6 y7 y8 y9, LeO (impl_Work.j1 k y0 y1 y2 y3 y4 y5 y6 y7 y8 y9) (impl_Work.j1 (k + 1) y0 y1 y2 y3 y4 y5 y6 y7 y8 y9)) ∧ (∀ y0 y1 y2 y3 y4 y5 y6 y7 y8 y9 y10 y11 y12 y13, LeO (impl_Work.j2 k y0 y1 y2 y3 y4 y5 y6 y7 y8 y9 y10 y11 y12 y13) (impl_Work.j2 (k + 1) y0 y1 y2 y3 y4 y5 y6 y7 y8 y9 y10 y11 y12 y13)) ∧ (∀ y0 y1 y2 y3 y4, LeO (impl_Work.j3 k y0 y1 y2 y3 y4) (impl_Work.j3 (k + 1) y0 y1 y2 y3 y4))
 | 0 => ⟨fun _ _ _ _ _ _ _ _ _ _ r h => by simp [impl_Work.j0] at h, fun _ _ _ _ _ _ _ _ _ _ r h => by simp [impl_Work.j1] at h, fun _ _ _ _ _ _ _ _ _ _ _ _ _ _ r h => by simp [impl_Work.j2] at h, fun _ _ _ _ _ r h => by simp [impl_Work.j3] at h⟩
 | k + 1 => by
  obtain ⟨ih0, ih1, ih2, ih3⟩ := impl_Work.mono_l k
  refine ⟨?_, ?_, ?_, ?_⟩
  ·intro y0 y1 y2 y3 y4 y5 y6 y7 y8 y9
   unfold impl_Work.j0
   repeat' first
   | (with_reducible exact ih0 _ _ _ _ _ _ _ _ _ _)
   | (with_reducible exact ih1 _ _ _ _ _ _ _ _ _ _)
   | (with_reducible exact ih2 _ _ _ _ _ _ _ _ _ _ _ _ _ _)
   | (with_reducible exact ih3 _ _ _ _ _)
   | (with_reducible exact impl_HartOk.mono _ _ _ _)
   | (with_reducible exact LeO.refl _)
   | (with_reducible exact LeO.none _)
   | (with_reducible refine LeO.ite ?_ ?_)
   | (with_reducible refine LeO.bind ?_ (fun _ => ?_))
   | exact ih0 _ _ _ _ _ _ _ _ _ _
   | exact ih1 _ _ _ _ _ _ _ _ _ _
   | exact ih2 _ _ _ _ _ _ _ _ _ _ _ _ _ _
   | exact ih3 _ _ _ _ _
   | exact impl_HartOk.mono _ _ _ _
   | exact LeO.none _
   | refine LeO.ite ?_ ?_
   | refine LeO.bind ?_ (fun _ => ?_)
  ·intro y0 y1 y2 y3 y4 y5 y6 y7 y8 y9
   unfold impl_Work.j1
   repeat' first
   | (with_reducible exact ih0 _ _ _ _ _ _ _ _ _ _)
   | (with_reducible exact ih1 _ _ _ _ _ _ _ _ _ _)
   | (with_reducible exact ih2 _ _ _ _ _ _ _ _ _ _ _ _ _ _)
   | (with_reducible exact ih3 _ _ _ _ _)
   | (with_reducible exact impl_HartOk.mono _ _ _ _)
   | (with_reducible exact LeO.refl _)
   | (with_reducible exact LeO.none _)
   | (with_reducible refine LeO.ite ?_ ?_)
   | (with_reducible refine LeO.bind ?_ (fun _ => ?_))
   | exact ih0 _ _ _ _ _ _ _ _ _ _
   | exact ih1 _ _ _ _ _ _ _ _ _ _
   | exact ih2 _ _ _ _ _ _ _ _ _ _ _ _ _ _
   | exact ih3 _ _ _ _ _
   | exact impl_HartOk.mono _ _ _ _
   | exact LeO.none _
   | refine LeO.ite ?_ ?_
   | refine LeO.bind ?_ (fun _ => ?_)
  ·intro y0 y1 y2 y3 y4 y5 y6 y7 y8 y9 y10 y11 y12 y13
   unfold impl_Work.j2
   repeat' first
   | (with_reducible exact ih0 _ _ _ _ _ _ _ _ _ _)
   | (with_reducible exact ih1 _ _ _ _ _ _ _ _ _ _)
   | (with_reducible exact ih2 _ _ _ _ _ _ _ _ _ _ _ _ _ _)
   | (with_reducible exact ih3 _ _ _ _ _)
   | (with_reducible exact impl_HartOk.mono _ _ _ _)
   | (with_reducible exact LeO.refl _)
   | (with_reducible exact LeO.none _)
   | (with_reducible refine LeO.ite ?_ ?_)
   | (with_reducible refine LeO.bind ?_ (fun _ => ?_))
   | exact ih0 _ _ _ _ _ _ _ _ _ _
   | exact ih1 _ _ _ _ _ _ _ _ _ _
   | exact ih2 _ _ _ _ _ _ _ _ _ _ _ _ _ _
   | exact ih3 _ _ _ _ _
   | exact impl_HartOk.mono _ _ _ _
   | exact LeO.none _
   | refine LeO.ite ?_ ?_
   | refine LeO.bind ?_ (fun _ => ?_)
  ·intro y0 y1 y2 y3 y4
   unfold impl_Work.j3
   repeat' first
   | (with_reducible exact ih0 _ _ _ _ _ _ _ _ _ _)
   | (with_reducible exact ih1 _ _ _ _ _ _ _ _ _ _)
   | (with_reducible exact ih2 _ _ _ _ _ _ _ _ _ _ _ _ _ _)
   | (with_reducible exact ih3 _ _ _ _ _)
   | (with_reducible exact impl_HartOk.mono _ _ _ _)
   | (with_reducible exact LeO.refl _)
   | (with_reducible exact LeO.none _)
   | (with_reducible refine LeO.ite ?_ ?_)
   | (with_reducible refine LeO.bind ?_ (fun _ => ?_))
   | exact ih0 _ _ _ _ _ _ _ _ _ _
   | exact ih1 _ _ _ _ _ _ _ _ _ _
   | exact ih2 _ _ _ _ _ _ _ _ _ _ _ _ _ _
   | exact ih3 _ _ _ _ _
   | exact impl_HartOk.mono _ _ _ _
   | exact LeO.none _
   | refine LeO.ite ?_ ?_
   | refine LeO.bind ?_ (fun _ => ?_)
theorem impl_Work.mono : ∀ a0 a1 a2 a3 a4 a5 a6 a7 a8 k, LeO (impl_Work.f k a0 a1 a2 a3 a4 a5 a6 a7 a8) (impl_Work.f (k + 1) a0 a1 a2 a3 a4 a5 a6 a7 a8) := by
 intro a0 a1 a2 a3 a4 a5 a6 a7 a8 k
 obtain ⟨ih0, ih1, ih2, ih3⟩ := impl_Work.mono_l k
 unfold impl_Work.f
 repeat' first
   | (with_reducible exact ih0 _ _ _ _ _ _ _ _ _ _)
   | (with_reducible exact ih1 _ _ _ _ _ _ _ _ _ _)
   | (with_reducible exact ih2 _ _ _ _ _ _ _ _ _ _ _ _ _ _)
   | (with_reducible exact ih3 _ _ _ _ _)
   | (with_reducible exact impl_HartOk.mono _ _ _ _)
   | (with_reducible exact LeO.refl _)
   | (with_reducible exact LeO.none _)
   | (with_reducible refine LeO.ite ?_ ?_)
   | (with_reducible refine LeO.bind ?_ (fun _ => ?_))
   | exact ih0 _ _ _ _ _ _ _ _ _ _
   | exact ih1 _ _ _ _ _ _ _ _ _ _
   | exact ih2 _ _ _ _ _ _ _ _ _ _ _ _ _ _
   | exact ih3 _ _ _ _ _
   | exact impl_HartOk.mono _ _ _ _
   | exact LeO.none _
   | refine LeO.ite ?_ ?_
   | refine LeO.bind ?_ (fun _ => ?_)
def impl_Work.T7 : Bool × List (List Nat × List Nat) := (true, [([], []), ([0], [0]), ([], []), ([2], [2]), ([1, 3], [1, 3]), ([4], [4]), ([], []), ([6], [6]), ([], []), ([8], [8]), ([7, 9], [7, 9]), ([10], [10]), ([5, 0, 1, 2, 3, 4, 5], [5]), ([11, 12, 0, 1, 2, 3, 4, 5, 6, 7, 8, 9, 10, 11, 12], [11])])
def impl_Work.B7 : List Nat := [0, 1, 0, 4, 15, 31, 0, 64, 0, 256, 960, 1984, 63, 8191]
theorem impl_Work.tab7 : rtab .any (opsOf Try.f40 7) = impl_Work.T7 := by kernel_rfl
theorem impl_Work.bits7 : waitsOk impl_Work.T7.2 impl_Work.B7 = true := by kernel_rfl
def impl_Work.T14 : Bool × List (List Nat × List Nat) := (true, [([], []), ([0], [0]), ([], []), ([2], [2]), ([], []), ([], []), ([4, 5], [4, 5]), ([6], [6]), ([1, 3, 0, 1, 2, 3, 4, 5, 6, 7], [1, 3]), ([8, 7, 7, 0, 1, 2, 3, 4, 5, 6, 7], [7, 8])])
def impl_Work.B14 : List Nat := [0, 1, 0, 4, 0, 0, 48, 112, 255, 511]
theorem impl_Work.tab14 : rtab .any (opsOf Try.f40 14) = impl_Work.T14 := by kernel_rfl
theorem impl_Work.bits14 : waitsOk impl_Work.T14.2 impl_Work.B14 = true := by kernel_rfl
def impl_Work.T16 : Bool × List (List Nat × List Nat) := (true, [([], []), ([0], [0]), ([], []), ([2], [2]), ([], []), ([], []), ([4, 5], [4, 5]), ([6], [6]), ([1, 3, 0, 1, 2, 3, 4, 5, 6, 7], [1, 3]), ([8, 7, 7, 0, 1, 2, 3, 4, 5, 6, 7], [7, 8])])
def impl_Work.B16 : List Nat := [0, 1, 0, 4, 0, 0, 48, 112, 255, 511]
theorem impl_Work.tab16 : rtab .any (opsOf Try.f40 16) = impl_Work.T16 := by kernel_rfl
theorem impl_Work.bits16 : waitsOk impl_Work.T16.2 impl_Work.B16 = true := by kernel_rfl
def impl_Work.T18 : Bool × List (List Nat × List Nat) := (true, [([], []), ([0], [0]), ([], []), ([2], [2]), ([], []), ([], []), ([5], [5]), ([4, 6], [4, 6]), ([7], [7]), ([1, 3, 0, 1, 2, 3, 4, 5, 6, 7, 8], [1, 3]), ([9, 8, 8, 0, 1, 2, 3, 4, 5, 6, 7, 8], [8, 9])])
def impl_Work.B18 : List Nat := [0, 1, 0, 4, 0, 0, 32, 112, 240, 511, 1023]
theorem impl_Work.tab18 : rtab .any (opsOf Try.f40 18) = impl_Work.T18 := by kernel_rfl
theorem impl_Work.bits18 : waitsOk impl_Work.T18.2 impl_Work.B18 = true := by kernel_rfl
set_option maxHeartbeats 8000000 in
set_option maxRecDepth 100000 in
theorem impl_Work.calls (k : Nat) (A0_0 : Option Addr) (c0_0 : Nat) (l0_0 : List Int) (a0_1 : Int) (a0_2 : Int) (a1_0 : Int) (a1_1 : Int) (a1_2 : Int) (a1_3 : Int) (a1_4 : Int) (a2 : Int) (r1 : List Int) (r2 : Int) (r3 : Int) (r4 : Int) (w : World) (hr0_0 : Kd.C (Kd.int .i64) w A0_0 l0_0.length l0_0) (hc0_0 : l0_0.length ≤ c0_0) (h : impl_Work.f k l0_0 a0_1 a0_2 a1_0 a1_1 a1_2 a1_3 a1_4 a2 = some (r1, r2, r3, r4)) :
  Calls Try.prog 40 #[.agg #[.slice A0_0 l0_0.length c0_0, .int .i64 a0_1, .int .i64 a0_2], .agg #[.int .i64 a1_0, .int .i64 a1_1, .int .i64 a1_2, .int .i64 a1_3, .int .i64 a1_4], .int .i64 a2] w fun e w' => ∃ v0_ : Value, e = .returned (.tuple #[.agg #[v0_, .int .i64 r2, .int .i64 r3], .int .i64 r4]) ∧ Kd.R (Kd.int .i64) 3 w' w.heap.size (fun _ => True) v0_ r1 ∧ Below w.heap.size w w' := by
 have hu29 := Try.underlying29
 have hu41 := Try.underlying41
 have HR0_0 := Aside0.mk hr0_0
 have HC0_0 := Aside0.mk hc0_0
 clear hr0_0 hc0_0
 have HB := Aside0.mk (Below.refl w.heap.size w)
 have H : ((impl_copyHart.f l0_0 a0_1 a0_2).bind fun bt396 => ((impl_HartOk.f k bt396.1 bt396.2.1 bt396.2.2).bind fun t401 => (if t401 = true then (if bt396.2.2 = 0 then ((impl_isWord.f a2).bind fun t402 => (impl_Work.j0 k a2 (!t402) bt396.1 bt396.2.1 bt396.2.2 a1_0 a1_1 a1_2 a1_3 a1_4)) else (impl_Work.j0 k a2 true bt396.1 bt396.2.1 bt396.2.2 a1_0 a1_1 a1_2 a1_3 a1_4)) else (impl_Work.j0 k a2 true bt396.1 bt396.2.1 bt396.2.2 a1_0 a1_1 a1_2 a1_3 a1_4)))) = some (r1, r2, r3, r4) := h
 clear h
 replace H := Option.bind_eq_some_iff.mp H
 obtain ⟨⟨t396, t399, t400⟩, A40, H⟩ := H
 replace H : ((impl_HartOk.f k t396 t399 t400).bind fun t401 => (if t401 = true then (if t400 = 0 then ((impl_isWord.f a2).bind fun t402 => (impl_Work.j0 k a2 (!t402) t396 t399 t400 a1_0 a1_1 a1_2 a1_3 a1_4)) else (impl_Work.j0 k a2 true t396 t399 t400 a1_0 a1_1 a1_2 a1_3 a1_4)) else (impl_Work.j0 k a2 true t396 t399 t400 a1_0 a1_1 a1_2 a1_3 a1_4))) = some (r1, r2, r3, r4) := H
 have A4 := Aside0.mk A40
 clear A40
 have HC5 := Aside0.mk H
 clear H
 go_enter Try.func40, Try.ntmps40
 go_upto_region 2 with (first | ((with_reducible refine gate_dst (N := 3) rfl ?_); refine box_event ?hg (N := 3) ?hd (cs := #[.slice A0_0 l0_0.length c0_0, .int .i64 a0_1, .int .i64 a0_2]) (t := 29) ?hr ?_; (case hd => rfl); (case hg => rfl); (case hr => first | (go_simp; done) | (go_simp; rfl)); intro gb393 hg w6 hbox hb; have n0_ := Aside0.mk (below_step (zB8_0) hb); have n1_ := Aside0.mk (hbox); have n2_ := Aside0.mk ((by rw [hg]; exact (below_size (zB8_0)) : w.heap.size ≤ gb393)); have n3_ := Aside0.mk ((by rw [hg]; exact (below_size (zB8_0)) : w.heap.size ≤ gb393)); clear HB; have HB := n0_; have BK393 := n1_; have GW393 := n2_; have GE393 := n3_; clear n0_ n1_ n2_ n3_; clear hb hbox hg) | ((with_reducible refine gate_dst (N := 4) rfl ?_); refine box_event ?hg (N := 4) ?hd (cs := #[.int .i64 a1_0, .int .i64 a1_1, .int .i64 a1_2, .int .i64 a1_3, .int .i64 a1_4]) (t := 41) ?hr ?_; (case hd => rfl); (case hg => rfl); (case hr => first | (go_simp; done) | (go_simp; rfl)); intro gb394 hg w7 hbox hb; have n0_ := Aside0.mk (zb8 BK393.out hb); have n1_ := Aside0.mk (below_step (zB8_1) hb); have n2_ := Aside0.mk (hbox); have n3_ := Aside0.mk ((by rw [hg]; exact (below_size (zB8_1)) : w.heap.size ≤ gb394)); have n4_ := Aside0.mk ((by rw [hg]; exact (below_size (zB8_1)) : w.heap.size ≤ gb394)); have n5_ := Aside0.mk ((zn8 BK393.out hg : gb393 ≠ gb394)); have n6_ := Aside0.mk ((zm8 BK393.out hg : gb394 ≠ gb393)); clear BK393; clear HB; have BK393 := n0_; have HB := n1_; have BK394 := n2_; have GW394 := n3_; have GE394 := n4_; have NB393_394 := n5_; have NB394_393 := n6_; clear n0_ n1_ n2_ n3_ n4_ n5_ n6_; clear hb hbox hg) | ((with_reducible refine gate_dst (N := 6) rfl ?_); refine box_event ?hg (N := 6) ?hd (cs := #[.slice none 0 0, .int .i64 0, .int .i64 0]) (t := 29) ?hr ?_; (case hd => rfl); (case hg => rfl); (case hr => first | (go_simp; done) | (go_simp; rfl)); intro gb395 hg w8 hbox hb; have n0_ := Aside0.mk (zb8 BK393.out hb); have n1_ := Aside0.mk (zb8 BK394.out hb); have n2_ := Aside0.mk (below_step (zB8_2) hb); have n3_ := Aside0.mk (hbox); have n4_ := Aside0.mk ((by rw [hg]; exact (below_size (zB8_2)) : w.heap.size ≤ gb395)); have n5_ := Aside0.mk ((by rw [hg]; exact (below_size (zB8_2)) : w.heap.size ≤ gb395)); have n6_ := Aside0.mk ((zn8 BK393.out hg : gb393 ≠ gb395)); have n7_ := Aside0.mk ((zm8 BK393.out hg : gb395 ≠ gb393)); have n8_ := Aside0.mk ((zn8 BK394.out hg : gb394 ≠ gb395)); have n9_ := Aside0.mk ((zm8 BK394.out hg : gb395 ≠ gb394)); clear BK393; clear BK394; clear HB; have BK393 := n0_; have BK394 := n1_; have HB := n2_; have BK395 := n3_; have GW395 := n4_; have GE395 := n5_; have NB393_395 := n6_; have NB395_393 := n7_; have NB394_395 := n8_; have NB395_394 := n9_; clear n0_ n1_ n2_ n3_ n4_ n5_ n6_ n7_ n8_ n9_; clear hb hbox hg; have hnb9 := NB393_394.out; have hnc9 := NB394_393.out; have hnb10 := NB393_395.out; have hnc10 := NB395_393.out; obtain ⟨hcz11_0, hcz11_1, hcz11_2, hfz11_0, hfz11_1, hfz11_2⟩ := zc8_3 (w := w8) BK393.out) | ((with_reducible refine gate_callee (f := 22) rfl ?_); refine goesL_ (some 13) rfl rfl Try.func22 (by kernel_rfl) rfl #[.agg #[.slice A0_0 l0_0.length c0_0, .int .i64 a0_1, .int .i64 a0_2]] rfl zT8 ?_; (with_reducible refine (impl_copyHart.calls _ _ l0_0 a0_1 a0_2 t396 t399 t400 _ ?side1 ?side2 A4.out).mono ?_); (case side1 => exact zC8 (Kd.C_below HR0_0.out HB.out)); (case side2 => exact HC0_0.out); rintro e w12 ⟨v397, rfl, ho0, hb⟩; refine ⟨_, rfl, ?_⟩; have n0_ := Aside0.mk (Kd.R_lower ho0 (below_size (zB8_3))); have n1_ := Aside0.mk (zb8 BK393.out hb); have n2_ := Aside0.mk (zb8 BK394.out hb); have n3_ := Aside0.mk (zb8 BK395.out hb); have n4_ := Aside0.mk (below_step (zB8_3) hb); clear BK393; clear BK394; clear BK395; clear HB; have HO398 := n0_; have BK393 := n1_; have BK394 := n2_; have BK395 := n3_; have HB := n4_; clear n0_ n1_ n2_ n3_ n4_; (try clear hb); (try clear hb2); (try clear hk); (try clear hi); (try clear ho0); obtain ⟨Ao13, co13, eo13⟩ := Kd.R_slice HO398.out; subst eo13; obtain ⟨hcz14_0, hcz14_1, hcz14_2, hfz14_0, hfz14_1, hfz14_2⟩ := zc8_3 (w := w12) BK393.out))
 (try simp only [Act.put, List.setIfInBounds_toArray, List.set_cons_zero, List.set_cons_succ])
 go_cut [26] (fun v26 wc => ∃ (kq : Nat) (x26_4 : Bool), v26 = .bool x26_4 ∧ Aside0 (impl_Work.j0 kq a2 x26_4 t396 t399 t400 a1_0 a1_1 a1_2 a1_3 a1_4 = some (r1, r2, r3, r4)) ∧ Aside0 (kq ≤ k) ∧ Aside0 (Kd.R (Kd.int .i64) 3 wc w.heap.size (fun _ => True) (.slice Ao13 t396.length co13) t396) ∧ Aside0 (wc.heap[gb393]? = some (.cells #[(.slice Ao13 t396.length co13), .int .i64 t399, .int .i64 t400] 29 (0, 0))) ∧ Aside0 (wc.heap[gb394]? = some (.cells #[.int .i64 a1_0, .int .i64 a1_1, .int .i64 a1_2, .int .i64 a1_3, .int .i64 a1_4] 41 (0, 0))) ∧ Aside0 (wc.heap[gb395]? = some (.cells #[(.slice none 0 0), .int .i64 0, .int .i64 0] 29 (0, 0))) ∧ Aside0 (Below w.heap.size w wc))
 case first =>
  have H := HC5.out
  clear HC5
  replace H := Option.bind_eq_some_iff.mp H
  obtain ⟨t401, A150, H⟩ := H
  replace H : (if t401 = true then (if t400 = 0 then ((impl_isWord.f a2).bind fun t402 => (impl_Work.j0 k a2 (!t402) t396 t399 t400 a1_0 a1_1 a1_2 a1_3 a1_4)) else (impl_Work.j0 k a2 true t396 t399 t400 a1_0 a1_1 a1_2 a1_3 a1_4)) else (impl_Work.j0 k a2 true t396 t399 t400 a1_0 a1_1 a1_2 a1_3 a1_4)) = some (r1, r2, r3, r4) := H
  have A15 := Aside0.mk A150
  clear A150
  by_cases c16 : t401 = true
  rotate_left
  ·replace c16 := Bool.eq_false_iff.mpr c16
   subst c16
   have H1 : (impl_Work.j0 k a2 true t396 t399 t400 a1_0 a1_1 a1_2 a1_3 a1_4) = some (r1, r2, r3, r4) := by rw [if_neg (show ¬ (false = true) by decide)] at H; exact H
   clear H
   have H := H1
   clear H1
   have H' := Aside0.mk H
   clear H
   have hnb29 := NB393_394.out
   have hnc29 := NB394_393.out
   have hnb30 := NB393_395.out
   have hnc30 := NB395_393.out
   obtain ⟨hcz31_0, hcz31_1, hcz31_2, hfz31_0, hfz31_1, hfz31_2⟩ := zc8_3 (w := w12) BK393.out
   go_wp2_with (first | ((with_reducible refine gate_callee (f := 38) rfl ?_); refine goesL_ (some 15) rfl rfl Try.func38 (by kernel_rfl) rfl #[.agg #[.slice Ao13 t396.length co13, .int .i64 t399, .int .i64 t400]] rfl zT8 ?_; (with_reducible refine (impl_HartOk.calls k _ _ t396 t399 t400 false _ ?side1 ?side2 A15.out).mono ?_); (case side1 => refine (Kd.R_reads' (e := 3) (base := w.heap.size) (ok := fun k_ => True) (n := t396.length) (c := co13) ?_).2.2; exact (by (with_reducible repeat (first | apply Kd.R_alloc | apply Kd.R_drewN | apply Kd.R_drew)); exact (Kd.R_mono (Kd.R_far (p := ⟨gb393, 2, none⟩) (Kd.R_far (p := ⟨gb393, 1, none⟩) (Kd.R_far (p := ⟨gb393, 0, none⟩) (Kd.R_types HO398.out BK393.out (by decide)) (fun _ hk => hk.2) (.slice Ao13 t396.length co13)) (fun _ hk => hk.2) (.int .i64 t399)) (fun _ hk => hk.2) (.int .i64 t400)) (fun _ h_ => h_.1)))); (case side2 => exact (Kd.R_reads' HO398.out).2.1); rintro e w32 ⟨rfl, hb⟩; refine ⟨_, rfl, ?_⟩; have n0_ := Aside0.mk (Kd.R_below (by (with_reducible repeat (first | apply Kd.R_alloc | apply Kd.R_drewN | apply Kd.R_drew)); exact (Kd.R_mono (Kd.R_far (p := ⟨gb393, 2, none⟩) (Kd.R_far (p := ⟨gb393, 1, none⟩) (Kd.R_far (p := ⟨gb393, 0, none⟩) (Kd.R_types HO398.out BK393.out (by decide)) (fun _ hk => hk.2) (.slice Ao13 t396.length co13)) (fun _ hk => hk.2) (.int .i64 t399)) (fun _ hk => hk.2) (.int .i64 t400)) (fun _ h_ => h_.1))) hb); have n1_ := Aside0.mk (blk_below (g := gb393) (o := .cells #[.slice Ao13 t396.length co13, .int .i64 t399, .int .i64 t400] 29 (0, 0)) (by refine zP8 ?_; refine blk_put (cs := #[.slice Ao13 t396.length co13, .int .i64 t399, .int .i64 a0_2]) ?_ 2 _ rfl; refine zP8 ?_; refine blk_put (cs := #[.slice Ao13 t396.length co13, .int .i64 a0_1, .int .i64 a0_2]) ?_ 1 _ rfl; refine zP8 ?_; refine blk_put (cs := #[.slice A0_0 l0_0.length c0_0, .int .i64 a0_1, .int .i64 a0_2]) ?_ 0 _ rfl; refine zP8 ?_; exact BK393.out) hb); have n2_ := Aside0.mk (blk_below (g := gb394) (o := .cells #[.int .i64 a1_0, .int .i64 a1_1, .int .i64 a1_2, .int .i64 a1_3, .int .i64 a1_4] 41 (0, 0)) (by refine zP8 ?_; refine blk_far ?_ NB394_393.out _; refine zP8 ?_; refine blk_far ?_ NB394_393.out _; refine zP8 ?_; refine blk_far ?_ NB394_393.out _; refine zP8 ?_; exact BK394.out) hb); have n3_ := Aside0.mk (blk_below (g := gb395) (o := .cells #[.slice none 0 0, .int .i64 0, .int .i64 0] 29 (0, 0)) (by refine zP8 ?_; refine blk_far ?_ NB395_393.out _; refine zP8 ?_; refine blk_far ?_ NB395_393.out _; refine zP8 ?_; refine blk_far ?_ NB395_393.out _; refine zP8 ?_; exact BK395.out) hb); have n4_ := Aside0.mk (below_step (zB8_3) hb); clear HO398; clear BK393; clear BK394; clear BK395; clear HB; have HO398 := n0_; have BK393 := n1_; have BK394 := n2_; have BK395 := n3_; have HB := n4_; clear n0_ n1_ n2_ n3_ n4_; (try clear hb); (try clear hb2); (try clear hk); (try clear hi)))
   go_meet
   case rel => exact ⟨_, (true), (by first | rfl | (simp; done) | (simp [*]; done)), H', ⟨by first | omega | exact Nat.le_refl _⟩, ⟨zR8 HO398.out⟩, ⟨zK8 BK393.out⟩, ⟨zK8 BK394.out⟩, ⟨zK8 BK395.out⟩, ⟨zB8_3⟩⟩
  subst c16
  have H1 : (if t400 = 0 then ((impl_isWord.f a2).bind fun t402 => (impl_Work.j0 k a2 (!t402) t396 t399 t400 a1_0 a1_1 a1_2 a1_3 a1_4)) else (impl_Work.j0 k a2 true t396 t399 t400 a1_0 a1_1 a1_2 a1_3 a1_4)) = some (r1, r2, r3, r4) := by rw [if_pos rfl] at H; exact H
  clear H
  have H := H1
  clear H1
  by_cases c17 : t400 = 0
  rotate_left
  ·rw [if_neg c17] at H
   have c17b0 : (t400 == 0) = false := beq_eq_false_iff_ne.mpr c17
   have c17b1 : (t400 != 0) = true := bne_iff_ne.mpr c17
   (first | rw [c17b0] | (simp only [i64_w, i32_w]; rw [c17b0]) | skip)
   have H' := Aside0.mk H
   clear H
   have hnb24 := NB393_394.out
   have hnc24 := NB394_393.out
   have hnb25 := NB393_395.out
   have hnc25 := NB395_393.out
   obtain ⟨hcz26_0, hcz26_1, hcz26_2, hfz26_0, hfz26_1, hfz26_2⟩ := zc8_3 (w := w12) BK393.out
   go_wp2_with (first | ((with_reducible refine gate_callee (f := 38) rfl ?_); refine goesL_ (some 15) rfl rfl Try.func38 (by kernel_rfl) rfl #[.agg #[.slice Ao13 t396.length co13, .int .i64 t399, .int .i64 t400]] rfl zT8 ?_; (with_reducible refine (impl_HartOk.calls k _ _ t396 t399 t400 true _ ?side1 ?side2 A15.out).mono ?_); (case side1 => refine (Kd.R_reads' (e := 3) (base := w.heap.size) (ok := fun k_ => True) (n := t396.length) (c := co13) ?_).2.2; exact (by (with_reducible repeat (first | apply Kd.R_alloc | apply Kd.R_drewN | apply Kd.R_drew)); exact (Kd.R_mono (Kd.R_far (p := ⟨gb393, 2, none⟩) (Kd.R_far (p := ⟨gb393, 1, none⟩) (Kd.R_far (p := ⟨gb393, 0, none⟩) (Kd.R_types HO398.out BK393.out (by decide)) (fun _ hk => hk.2) (.slice Ao13 t396.length co13)) (fun _ hk => hk.2) (.int .i64 t399)) (fun _ hk => hk.2) (.int .i64 t400)) (fun _ h_ => h_.1)))); (case side2 => exact (Kd.R_reads' HO398.out).2.1); rintro e w27 ⟨rfl, hb⟩; refine ⟨_, rfl, ?_⟩; have n0_ := Aside0.mk (Kd.R_below (by (with_reducible repeat (first | apply Kd.R_alloc | apply Kd.R_drewN | apply Kd.R_drew)); exact (Kd.R_mono (Kd.R_far (p := ⟨gb393, 2, none⟩) (Kd.R_far (p := ⟨gb393, 1, none⟩) (Kd.R_far (p := ⟨gb393, 0, none⟩) (Kd.R_types HO398.out BK393.out (by decide)) (fun _ hk => hk.2) (.slice Ao13 t396.length co13)) (fun _ hk => hk.2) (.int .i64 t399)) (fun _ hk => hk.2) (.int .i64 t400)) (fun _ h_ => h_.1))) hb); have n1_ := Aside0.mk (blk_below (g := gb393) (o := .cells #[.slice Ao13 t396.length co13, .int .i64 t399, .int .i64 t400] 29 (0, 0)) (by refine zP8 ?_; refine blk_put (cs := #[.slice Ao13 t396.length co13, .int .i64 t399, .int .i64 a0_2]) ?_ 2 _ rfl; refine zP8 ?_; refine blk_put (cs := #[.slice Ao13 t396.length co13, .int .i64 a0_1, .int .i64 a0_2]) ?_ 1 _ rfl; refine zP8 ?_; refine blk_put (cs := #[.slice A0_0 l0_0.length c0_0, .int .i64 a0_1, .int .i64 a0_2]) ?_ 0 _ rfl; refine zP8 ?_; exact BK393.out) hb); have n2_ := Aside0.mk (blk_below (g := gb394) (o := .cells #[.int .i64 a1_0, .int .i64 a1_1, .int .i64 a1_2, .int .i64 a1_3, .int .i64 a1_4] 41 (0, 0)) (by refine zP8 ?_; refine blk_far ?_ NB394_393.out _; refine zP8 ?_; refine blk_far ?_ NB394_393.out _; refine zP8 ?_; refine blk_far ?_ NB394_393.out _; refine zP8 ?_; exact BK394.out) hb); have n3_ := Aside0.mk (blk_below (g := gb395) (o := .cells #[.slice none 0 0, .int .i64 0, .int .i64 0] 29 (0, 0)) (by refine zP8 ?_; refine blk_far ?_ NB395_393.out _; refine zP8 ?_; refine blk_far ?_ NB395_393.out _; refine zP8 ?_; refine blk_far ?_ NB395_393.out _; refine zP8 ?_; exact BK395.out) hb); have n4_ := Aside0.mk (below_step (zB8_3) hb); clear HO398; clear BK393; clear BK394; clear BK395; clear HB; have HO398 := n0_; have BK393 := n1_; have BK394 := n2_; have BK395 := n3_; have HB := n4_; clear n0_ n1_ n2_ n3_ n4_; (try clear hb); (try clear hb2); (try clear hk); (try clear hi); obtain ⟨hcz28_0, hcz28_1, hcz28_2, hfz28_0, hfz28_1, hfz28_2⟩ := zc8_3 (w := w27) BK393.out))
   go_meet
   case rel => exact ⟨_, (true), (by first | rfl | (simp; done) | (simp [*]; done)), H', ⟨by first | omega | exact Nat.le_refl _⟩, ⟨zR8 HO398.out⟩, ⟨zK8 BK393.out⟩, ⟨zK8 BK394.out⟩, ⟨zK8 BK395.out⟩, ⟨zB8_3⟩⟩
  rw [if_pos c17] at H
  have c17b0 : (t400 == 0) = true := beq_iff_eq.mpr c17
  have c17b1 : (t400 != 0) = false := bne_eq_false_iff_eq.mpr c17
  clear c17
  (first | rw [c17b0] | (simp only [i64_w, i32_w]; rw [c17b0]) | skip)
  replace H := Option.bind_eq_some_iff.mp H
  obtain ⟨t402, A180, H⟩ := H
  replace H : (impl_Work.j0 k a2 (!t402) t396 t399 t400 a1_0 a1_1 a1_2 a1_3 a1_4) = some (r1, r2, r3, r4) := H
  have A18 := Aside0.mk A180
  clear A180
  have H' := Aside0.mk H
  clear H
  have hnb19 := NB393_394.out
  have hnc19 := NB394_393.out
  have hnb20 := NB393_395.out
  have hnc20 := NB395_393.out
  obtain ⟨hcz21_0, hcz21_1, hcz21_2, hfz21_0, hfz21_1, hfz21_2⟩ := zc8_3 (w := w12) BK393.out
  go_wp2_with (first | ((with_reducible refine gate_callee (f := 38) rfl ?_); refine goesL_ (some 15) rfl rfl Try.func38 (by kernel_rfl) rfl #[.agg #[.slice Ao13 t396.length co13, .int .i64 t399, .int .i64 t400]] rfl zT8 ?_; (with_reducible refine (impl_HartOk.calls k _ _ t396 t399 t400 true _ ?side1 ?side2 A15.out).mono ?_); (case side1 => refine (Kd.R_reads' (e := 3) (base := w.heap.size) (ok := fun k_ => True) (n := t396.length) (c := co13) ?_).2.2; exact (by (with_reducible repeat (first | apply Kd.R_alloc | apply Kd.R_drewN | apply Kd.R_drew)); exact (Kd.R_mono (Kd.R_far (p := ⟨gb393, 2, none⟩) (Kd.R_far (p := ⟨gb393, 1, none⟩) (Kd.R_far (p := ⟨gb393, 0, none⟩) (Kd.R_types HO398.out BK393.out (by decide)) (fun _ hk => hk.2) (.slice Ao13 t396.length co13)) (fun _ hk => hk.2) (.int .i64 t399)) (fun _ hk => hk.2) (.int .i64 t400)) (fun _ h_ => h_.1)))); (case side2 => exact (Kd.R_reads' HO398.out).2.1); rintro e w22 ⟨rfl, hb⟩; refine ⟨_, rfl, ?_⟩; have n0_ := Aside0.mk (Kd.R_below (by (with_reducible repeat (first | apply Kd.R_alloc | apply Kd.R_drewN | apply Kd.R_drew)); exact (Kd.R_mono (Kd.R_far (p := ⟨gb393, 2, none⟩) (Kd.R_far (p := ⟨gb393, 1, none⟩) (Kd.R_far (p := ⟨gb393, 0, none⟩) (Kd.R_types HO398.out BK393.out (by decide)) (fun _ hk => hk.2) (.slice Ao13 t396.length co13)) (fun _ hk => hk.2) (.int .i64 t399)) (fun _ hk => hk.2) (.int .i64 t400)) (fun _ h_ => h_.1))) hb); have n1_ := Aside0.mk (blk_below (g := gb393) (o := .cells #[.slice Ao13 t396.length co13, .int .i64 t399, .int .i64 t400] 29 (0, 0)) (by refine zP8 ?_; refine blk_put (cs := #[.slice Ao13 t396.length co13, .int .i64 t399, .int .i64 a0_2]) ?_ 2 _ rfl; refine zP8 ?_; refine blk_put (cs := #[.slice Ao13 t396.length co13, .int .i64 a0_1, .int .i64 a0_2]) ?_ 1 _ rfl; refine zP8 ?_; refine blk_put (cs := #[.slice A0_0 l0_0.length c0_0, .int .i64 a0_1, .int .i64 a0_2]) ?_ 0 _ rfl; refine zP8 ?_; exact BK393.out) hb); have n2_ := Aside0.mk (blk_below (g := gb394) (o := .cells #[.int .i64 a1_0, .int .i64 a1_1, .int .i64 a1_2, .int .i64 a1_3, .int .i64 a1_4] 41 (0, 0)) (by refine zP8 ?_; refine blk_far ?_ NB394_393.out _; refine zP8 ?_; refine blk_far ?_ NB394_393.out _; refine zP8 ?_; refine blk_far ?_ NB394_393.out _; refine zP8 ?_; exact BK394.out) hb); have n3_ := Aside0.mk (blk_below (g := gb395) (o := .cells #[.slice none 0 0, .int .i64 0, .int .i64 0] 29 (0, 0)) (by refine zP8 ?_; refine blk_far ?_ NB395_393.out _; refine zP8 ?_; refine blk_far ?_ NB395_393.out _; refine zP8 ?_; refine blk_far ?_ NB395_393.out _; refine zP8 ?_; exact BK395.out) hb); have n4_ := Aside0.mk (below_step (zB8_3) hb); clear HO398; clear BK393; clear BK394; clear BK395; clear HB; have HO398 := n0_; have BK393 := n1_; have BK394 := n2_; have BK395 := n3_; have HB := n4_; clear n0_ n1_ n2_ n3_ n4_; (try clear hb); (try clear hb2); (try clear hk); (try clear hi); obtain ⟨hcz23_0, hcz23_1, hcz23_2, hfz23_0, hfz23_1, hfz23_2⟩ := zc8_3 (w := w22) BK393.out) | (go_at_call 34; (with_reducible refine (impl_isWord.calls a2 t402 _ A18.out).mono ?_); rintro e w' ⟨rfl, ⟨nd, rfl⟩⟩))
  go_meet
  case rel => exact ⟨_, (!t402), (by first | rfl | (simp; done) | (simp [*]; done)), H', ⟨by first | omega | exact Nat.le_refl _⟩, ⟨zR8 HO398.out⟩, ⟨zK8 BK393.out⟩, ⟨zK8 BK394.out⟩, ⟨zK8 BK395.out⟩, ⟨zB8_3⟩⟩
 case rest =>
  clear HC5
  try clear c1
  try clear c2
  try clear p2
  try clear c3
  try clear c4
  try clear c9
  try clear c10
  try clear c16
  try clear c17
  try clear c17b0
  try clear c17b1
  try clear c19
  try clear c20
  try clear c22
  try clear c24
  try clear c25
  try clear c29
  try clear c30
  try clear hcz11_0
  try clear hcz11_1
  try clear hcz11_2
  try clear hcz14_0
  try clear hcz14_1
  try clear hcz14_2
  try clear hcz21_0
  try clear hcz21_1
  try clear hcz21_2
  try clear hcz23_0
  try clear hcz23_1
  try clear hcz23_2
  try clear hcz26_0
  try clear hcz26_1
  try clear hcz26_2
  try clear hcz28_0
  try clear hcz28_1
  try clear hcz28_2
  try clear hcz31_0
  try clear hcz31_1
  try clear hcz31_2
  try clear hfz11_0
  try clear hfz11_1
  try clear hfz11_2
  try clear hfz14_0
  try clear hfz14_1
  try clear hfz14_2
  try clear hfz21_0
  try clear hfz21_1
  try clear hfz21_2
  try clear hfz23_0
  try clear hfz23_1
  try clear hfz23_2
  try clear hfz26_0
  try clear hfz26_1
  try clear hfz26_2
  try clear hfz28_0
  try clear hfz28_1
  try clear hfz28_2
  try clear hfz31_0
  try clear hfz31_1
  try clear hfz31_2
  obtain ⟨kq, x26_4, rfl, HA, HJ4, HO_394000, BK393, BK394, BK395, HB⟩ := hcut
  cases kq with
  | zero => exact absurd HA.out (by simp [impl_Work.j0])
  | succ kj4 =>
   have H := HA.out
   clear HA
   simp only [impl_Work.j0] at H
   by_cases c33 : x26_4 = true
   ·subst c33
    have H1 : (some (t396, t399, t400, (-1))) = some (r1, r2, r3, r4) := by rw [if_pos rfl] at H; exact H
    clear H
    have H := H1
    clear H1
    simp only [Option.some.injEq, Prod.mk.injEq] at H
    obtain ⟨rfl, rfl, rfl, rfl⟩ := H
    have hnb34 := NB393_394.out
    have hnc34 := NB394_393.out
    have hnb35 := NB393_395.out
    have hnc35 := NB395_393.out
    obtain ⟨hcz36_0, hcz36_1, hcz36_2, hfz36_0, hfz36_1, hfz36_2⟩ := zc8_3 (w := wc) BK393.out
    have hnb37 := NB395_394.out
    have hnc37 := NB394_395.out
    obtain ⟨hcz38_0, hcz38_1, hcz38_2, hfz38_0, hfz38_1, hfz38_2⟩ := zc8_3 (w := wc) BK395.out
    go_wp2
    refine bodyPost_ret (results_ct rfl _ _ gb395 29 #[.slice Ao13 t396.length co13, .int .i64 t399, .int .i64 t400] (0, 0) _ rfl (by refine zP8 ?_; refine blk_put (cs := #[.slice Ao13 t396.length co13, .int .i64 t399, .int .i64 0]) ?_ 2 _ rfl; refine zP8 ?_; refine blk_put (cs := #[.slice Ao13 t396.length co13, .int .i64 0, .int .i64 0]) ?_ 1 _ rfl; refine zP8 ?_; refine blk_put (cs := #[.slice none 0 0, .int .i64 0, .int .i64 0]) ?_ 0 _ rfl; refine zP8 ?_; exact BK395.out) Try.underlying29 rfl (by kernel_rfl)) rfl ?_
    exact ⟨_, zE8, by (with_reducible repeat (first | apply Kd.R_alloc | apply Kd.R_drewN | apply Kd.R_drew)); exact Kd.R_mono (Kd.R_far (p := ⟨gb395, 2, none⟩) (Kd.R_far (p := ⟨gb395, 1, none⟩) (Kd.R_far (p := ⟨gb395, 0, none⟩) (Kd.R_types HO_394000.out BK395.out (by decide)) (fun _ hk => hk.2) (.slice Ao13 t396.length co13)) (fun _ hk => hk.2) (.int .i64 t399)) (fun _ hk => hk.2) (.int .i64 t400)) (fun _ hk => trivial), zB8_3⟩
   replace c33 := Bool.eq_false_iff.mpr c33
   subst c33
   have H1 : ((impl_InsOk.f a1_0 a1_1 a1_2 a1_3 a1_4).bind fun t403 => (impl_Work.j1 kj4 a2 (!t403) t396 t399 t400 a1_0 a1_1 a1_2 a1_3 a1_4)) = some (r1, r2, r3, r4) := by rw [if_neg (show ¬ (false = true) by decide)] at H; exact H
   clear H
   have H := H1
   clear H1
   have HC39 := Aside0.mk H
   clear H
   go_upto_region 4 with (fail)
   go_cut [30] (fun v30 wc => ∃ (kq : Nat) (x30_38 : Bool), v30 = .bool x30_38 ∧ Aside0 (impl_Work.j1 kq a2 x30_38 t396 t399 t400 a1_0 a1_1 a1_2 a1_3 a1_4 = some (r1, r2, r3, r4)) ∧ Aside0 (kq ≤ kj4) ∧ Aside0 (Kd.R (Kd.int .i64) 3 wc w.heap.size (fun _ => True) (.slice Ao13 t396.length co13) t396) ∧ Aside0 (wc.heap[gb393]? = some (.cells #[(.slice Ao13 t396.length co13), .int .i64 t399, .int .i64 t400] 29 (0, 0))) ∧ Aside0 (wc.heap[gb394]? = some (.cells #[.int .i64 a1_0, .int .i64 a1_1, .int .i64 a1_2, .int .i64 a1_3, .int .i64 a1_4] 41 (0, 0))) ∧ Aside0 (wc.heap[gb395]? = some (.cells #[(.slice none 0 0), .int .i64 0, .int .i64 0] 29 (0, 0))) ∧ Aside0 (Below w.heap.size w wc))
   case first =>
    have H := HC39.out
    clear HC39
    replace H := Option.bind_eq_some_iff.mp H
    obtain ⟨t403, A400, H⟩ := H
    replace H : (impl_Work.j1 kj4 a2 (!t403) t396 t399 t400 a1_0 a1_1 a1_2 a1_3 a1_4) = some (r1, r2, r3, r4) := H
    have A40 := Aside0.mk A400
    clear A400
    have H' := Aside0.mk H
    clear H
    have hnb41 := NB394_393.out
    have hnc41 := NB393_394.out
    have hnb42 := NB394_395.out
    have hnc42 := NB395_394.out
    obtain ⟨hcz43_0, hcz43_1, hcz43_2, hcz43_3, hcz43_4, hfz43_0, hfz43_1, hfz43_2, hfz43_3, hfz43_4⟩ := zc8_5 (w := wc) BK394.out
    go_wp2_with (first | ((with_reducible refine gate_callee (f := 35) rfl ?_); refine goesL_ (some 29) rfl rfl Try.func35 (by kernel_rfl) rfl #[.agg #[.int .i64 a1_0, .int .i64 a1_1, .int .i64 a1_2, .int .i64 a1_3, .int .i64 a1_4]] rfl zT8 ?_; (with_reducible refine (impl_InsOk.calls a1_0 a1_1 a1_2 a1_3 a1_4 t403 _ A40.out).mono ?_); rintro e w44 ⟨rfl, hb⟩; refine ⟨_, rfl, ?_⟩; have n0_ := Aside0.mk (Kd.R_below (zR8 HO_394000.out) hb); have n1_ := Aside0.mk (zb8 BK393.out hb); have n2_ := Aside0.mk (zb8 BK394.out hb); have n3_ := Aside0.mk (zb8 BK395.out hb); have n4_ := Aside0.mk (below_step (zB8_3) hb); clear HO_394000; clear BK393; clear BK394; clear BK395; clear HB; have HO_394000 := n0_; have BK393 := n1_; have BK394 := n2_; have BK395 := n3_; have HB := n4_; clear n0_ n1_ n2_ n3_ n4_; (try clear hb); (try clear hb2); (try clear hk); (try clear hi)))
    go_meet
    case rel => exact ⟨_, (!t403), (by first | rfl | (simp; done) | (simp [*]; done)), H', ⟨by have := HJ4.out; first | omega | exact Nat.le_refl _⟩, ⟨zR8 HO_394000.out⟩, ⟨zK8 BK393.out⟩, ⟨zK8 BK394.out⟩, ⟨zK8 BK395.out⟩, ⟨zB8_3⟩⟩
   case rest =>
    clear HC39
    try clear c1
    try clear c2
    try clear p2
    try clear c3
    try clear c4
    try clear c9
    try clear c10
    try clear c16
    try clear c17
    try clear c17b0
    try clear c17b1
    try clear c19
    try clear c20
    try clear c22
    try clear c24
    try clear c25
    try clear c29
    try clear c30
    try clear c33
    try clear c34
    try clear c35
    try clear c37
    try clear c38
    try clear c40
    try clear c41
    try clear c42
    try clear hcz11_0
    try clear hcz11_1
    try clear hcz11_2
    try clear hcz14_0
    try clear hcz14_1
    try clear hcz14_2
    try clear hcz21_0
    try clear hcz21_1
    try clear hcz21_2
    try clear hcz23_0
    try clear hcz23_1
    try clear hcz23_2
    try clear hcz26_0
    try clear hcz26_1
    try clear hcz26_2
    try clear hcz28_0
    try clear hcz28_1
    try clear hcz28_2
    try clear hcz31_0
    try clear hcz31_1
    try clear hcz31_2
    try clear hcz36_0
    try clear hcz36_1
    try clear hcz36_2
    try clear hcz38_0
    try clear hcz38_1
    try clear hcz38_2
    try clear hcz43_0
    try clear hcz43_1
    try clear hcz43_2
    try clear hcz43_3
    try clear hcz43_4
    try clear hfz11_0
    try clear hfz11_1
    try clear hfz11_2
    try clear hfz14_0
    try clear hfz14_1
    try clear hfz14_2
    try clear hfz21_0
    try clear hfz21_1
    try clear hfz21_2
    try clear hfz23_0
    try clear hfz23_1
    try clear hfz23_2
    try clear hfz26_0
    try clear hfz26_1
    try clear hfz26_2
    try clear hfz28_0
    try clear hfz28_1
    try clear hfz28_2
    try clear hfz31_0
    try clear hfz31_1
    try clear hfz31_2
    try clear hfz36_0
    try clear hfz36_1
    try clear hfz36_2
    try clear hfz38_0
    try clear hfz38_1
    try clear hfz38_2
    try clear hfz43_0
    try clear hfz43_1
    try clear hfz43_2
    try clear hfz43_3
    try clear hfz43_4
    try clear p2
    obtain ⟨kq, x30_38, rfl, HA, HJ38, HO_394000, BK393, BK394, BK395, HB⟩ := hcut
    cases kq with
    | zero => exact absurd HA.out (by simp [impl_Work.j1])
    | succ kj38 =>
     have H := HA.out
     clear HA
     simp only [impl_Work.j1] at H
     by_cases c45 : x30_38 = true
     ·subst c45
      have H1 : (some (t396, t399, 2, (-1))) = some (r1, r2, r3, r4) := by rw [if_pos rfl] at H; exact H
      clear H
      have H := H1
      clear H1
      simp only [Option.some.injEq, Prod.mk.injEq] at H
      obtain ⟨rfl, rfl, rfl, rfl⟩ := H
      have hnb46 := NB393_394.out
      have hnc46 := NB394_393.out
      have hnb47 := NB393_395.out
      have hnc47 := NB395_393.out
      obtain ⟨hcz48_0, hcz48_1, hcz48_2, hfz48_0, hfz48_1, hfz48_2⟩ := zc8_3 (w := wc) BK393.out
      have hnb49 := NB395_394.out
      have hnc49 := NB394_395.out
      obtain ⟨hcz50_0, hcz50_1, hcz50_2, hfz50_0, hfz50_1, hfz50_2⟩ := zc8_3 (w := wc) BK395.out
      go_wp2
      refine bodyPost_ret (results_ct rfl _ _ gb395 29 #[.slice Ao13 t396.length co13, .int .i64 t399, .int .i64 2] (0, 0) _ rfl (by refine zP8 ?_; refine blk_put (cs := #[.slice Ao13 t396.length co13, .int .i64 t399, .int .i64 0]) ?_ 2 _ rfl; refine zP8 ?_; refine blk_put (cs := #[.slice Ao13 t396.length co13, .int .i64 0, .int .i64 0]) ?_ 1 _ rfl; refine zP8 ?_; refine blk_put (cs := #[.slice none 0 0, .int .i64 0, .int .i64 0]) ?_ 0 _ rfl; refine zP8 ?_; refine blk_far ?_ NB395_393.out _; refine zP8 ?_; exact BK395.out) Try.underlying29 rfl (by kernel_rfl)) rfl ?_
      exact ⟨_, zE8, by (with_reducible repeat (first | apply Kd.R_alloc | apply Kd.R_drewN | apply Kd.R_drew)); exact Kd.R_mono (Kd.R_far (p := ⟨gb395, 2, none⟩) (Kd.R_far (p := ⟨gb395, 1, none⟩) (Kd.R_far (p := ⟨gb395, 0, none⟩) (Kd.R_far (p := ⟨gb393, 2, none⟩) (Kd.R_types (Kd.R_types HO_394000.out BK393.out (by decide)) BK395.out (by decide)) (fun _ hk => hk.1.2) (.int .i64 2)) (fun _ hk => hk.2) (.slice Ao13 t396.length co13)) (fun _ hk => hk.2) (.int .i64 t399)) (fun _ hk => hk.2) (.int .i64 2)) (fun _ hk => trivial), zB8_3⟩
     replace c45 := Bool.eq_false_iff.mpr c45
     subst c45
     have H1 : (if 0 ≤ a1_2 then (if a1_2 < (t396.length : Int) then (if 0 ≤ a1_3 then (if a1_3 < (t396.length : Int) then ((impl_address.f (wrap64 (t399 + 1))).bind fun t406 => (impl_Work.j2 kj38 a2 (rd t396 a1_2) (rd t396 a1_3) (-1) t406 a1_0 t396 t399 t400 a1_0 a1_1 a1_2 a1_3 a1_4)) else (none)) else (none)) else (none)) else (none)) = some (r1, r2, r3, r4) := by rw [if_neg (show ¬ (false = true) by decide)] at H; exact H
     clear H
     have H := H1
     clear H1
     by_cases c51 : 0 ≤ a1_2
     rotate_left
     ·rw [if_neg c51] at H
      exact absurd H (by simp)
     rw [if_pos c51] at H
     have c51b0 : decide (0 ≤ a1_2) = true := decide_eq_true c51
     clear c51
     by_cases c52 : a1_2 < (t396.length : Int)
     rotate_left
     ·rw [if_neg c52] at H
      exact absurd H (by simp)
     rw [if_pos c52] at H
     have c52b0 : decide (a1_2 < (t396.length : Int)) = true := decide_eq_true c52
     clear c52
     by_cases c53 : 0 ≤ a1_3
     rotate_left
     ·rw [if_neg c53] at H
      exact absurd H (by simp)
     rw [if_pos c53] at H
     have c53b0 : decide (0 ≤ a1_3) = true := decide_eq_true c53
     clear c53
     by_cases c54 : a1_3 < (t396.length : Int)
     rotate_left
     ·rw [if_neg c54] at H
      exact absurd H (by simp)
     rw [if_pos c54] at H
     have c54b0 : decide (a1_3 < (t396.length : Int)) = true := decide_eq_true c54
     clear c54
     replace H := Option.bind_eq_some_iff.mp H
     obtain ⟨t406, A550, H⟩ := H
     replace H : (impl_Work.j2 kj38 a2 (rd t396 a1_2) (rd t396 a1_3) (-1) t406 a1_0 t396 t399 t400 a1_0 a1_1 a1_2 a1_3 a1_4) = some (r1, r2, r3, r4) := H
     have A55 := Aside0.mk A550
     clear A550
     have HC56 := Aside0.mk H
     clear H
     try go_wp2
     have n0_ := Aside0.mk (Kd.R_drew HO_394000.out)
     have n1_ := Aside0.mk (blk_drew BK393.out)
     have n2_ := Aside0.mk (blk_drew BK394.out)
     have n3_ := Aside0.mk (blk_drew BK395.out)
     have n4_ := Aside0.mk (below_drew1 HB.out)
     clear HO_394000 BK393 BK394 BK395 HB
     have HO_394000 := n0_
     have BK393 := n1_
     have BK394 := n2_
     have BK395 := n3_
     have HB := n4_
     clear n0_ n1_ n2_ n3_ n4_
     have p404 : 0 ≤ (a1_2 : Int) := zA8
     have q404 : a1_2 < (t396.length : Int) := zA8
     obtain ⟨ad404, e404, hx404_0⟩ := Kd.at_int (Kd.R_reads' HO_394000.out).2.2 a1_2 p404 q404
     cases e404
     replace p404 := eq_true p404
     replace q404 := eq_true q404
     have p405 : 0 ≤ (a1_3 : Int) := zA8
     have q405 : a1_3 < (t396.length : Int) := zA8
     obtain ⟨ad405, e405, hx405_0⟩ := Kd.at_int (Kd.R_reads' HO_394000.out).2.2 a1_3 p405 q405
     obtain rfl : ad404 = ad405 := (by injection e405)
     replace p405 := eq_true p405
     replace q405 := eq_true q405
     refine start_ (n := 14) (S := fun w' => w'.cell? ⟨gb393, 0, none⟩ = some (.slice (some ad404) t396.length co13) ∧ w'.cell? ⟨gb393, 1, none⟩ = some (.int .i64 t399) ∧ w'.cell? ⟨gb393, 2, none⟩ = some (.int .i64 t400) ∧ w'.cell? ⟨gb394, 0, none⟩ = some (.int .i64 a1_0) ∧ w'.cell? ⟨gb394, 1, none⟩ = some (.int .i64 a1_1) ∧ w'.cell? ⟨gb394, 2, none⟩ = some (.int .i64 a1_2) ∧ w'.cell? ⟨gb394, 3, none⟩ = some (.int .i64 a1_3) ∧ w'.cell? ⟨gb394, 4, none⟩ = some (.int .i64 a1_4) ∧ w'.cell? (ad404.add (a1_2).toNat) = some (.int .i64 (rd t396 a1_2)) ∧ w'.cell? (ad404.add (a1_3).toNat) = some (.int .i64 (rd t396 a1_3))) (ds := []) #[false, false, false, false, false, false, false, false, false, false, false, false, false, false] (by kernel_rfl) rfl rfl ⟨(blk_cell BK393.out 0).trans rfl, (blk_cell BK393.out 1).trans rfl, (blk_cell BK393.out 2).trans rfl, (blk_cell BK394.out 0).trans rfl, (blk_cell BK394.out 1).trans rfl, (blk_cell BK394.out 2).trans rfl, (blk_cell BK394.out 3).trans rfl, (blk_cell BK394.out 4).trans rfl, hx404_0, hx405_0⟩ (fun hHeld => ?_); refine with_tabW impl_Work.tab7 impl_Work.bits7 (fun HT_ HW_ => ?_)
     generalize wc.drew = w57 at HO_394000 BK393 BK394 BK395 HB hx404_0 hx405_0 hHeld ⊢
     refine pure_ (i := 0) (N := some 33) (v := ?_) (a' := ?_) #[true, false, false, false, false, false, false, false, false, false, false, false, false, false] rfl rfl (any_of HT_.out (by kernel_rfl)) (fun _ _ _ h => h) (Or.inl ⟨by rfl, ?_⟩) ?_ ?_
     rotate_left
     ·intro w'
      go_simp
      with_reducible rfl
     rotate_left
     ·exact zV8
     refine pure_ (i := 2) (N := some 35) (v := ?_) (a' := ?_) #[true, false, true, false, false, false, false, false, false, false, false, false, false, false] rfl rfl (any_of HT_.out (by kernel_rfl)) (fun _ _ _ h => h) (Or.inl ⟨by rfl, ?_⟩) ?_ ?_
     rotate_left
     ·intro w'
      go_simp
      with_reducible rfl
     rotate_left
     ·exact zV8
     refine pure_ (i := 6) (N := some 39) (v := ?_) (a' := ?_) #[true, false, true, false, false, false, true, false, false, false, false, false, false, false] rfl rfl (any_of HT_.out (by kernel_rfl)) (fun _ _ _ h => h) (Or.inl ⟨by rfl, ?_⟩) ?_ ?_
     rotate_left
     ·intro w'
      go_simp
      with_reducible rfl
     rotate_left
     ·exact zV8
     refine pure_ (i := 8) (N := some 41) (v := ?_) (a' := ?_) #[true, false, true, false, false, false, true, false, true, false, false, false, false, false] rfl rfl (any_of HT_.out (by kernel_rfl)) (fun _ _ _ h => h) (Or.inl ⟨by rfl, ?_⟩) ?_ ?_
     rotate_left
     ·intro w'
      go_simp
      with_reducible rfl
     rotate_left
     ·exact zV8
     refine take_ (i := 1) (N := some 34) (v := ?_) (a' := ?_) #[true, true, true, false, false, false, true, false, true, false, false, false, false, false] rfl rfl (take_ofW HT_.out HW_.out (by kernel_rfl)) (fun _ _ _ h => h) (Or.inl ⟨by rfl, ?_⟩) hHeld ?_ ?_
     rotate_left
     ·rintro w' ⟨s0, s1, s2, s3, s4, s5, s6, s7, s8, s9⟩
      go_simp
      with_reducible rfl
     rotate_left
     ·exact zV8
     refine take_ (i := 3) (N := some 36) (v := ?_) (a' := ?_) #[true, true, true, true, false, false, true, false, true, false, false, false, false, false] rfl rfl (take_ofW HT_.out HW_.out (by kernel_rfl)) (fun _ _ _ h => h) (Or.inl ⟨by rfl, ?_⟩) hHeld ?_ ?_
     rotate_left
     ·rintro w' ⟨s0, s1, s2, s3, s4, s5, s6, s7, s8, s9⟩
      go_simp
      with_reducible rfl
     rotate_left
     ·exact zV8
     refine pure_ (i := 4) (N := some 37) (v := ?_) (a' := ?_) #[true, true, true, true, true, false, true, false, true, false, false, false, false, false] rfl rfl (any_of HT_.out (by kernel_rfl)) (fun _ _ _ h => h) (Or.inl ⟨by rfl, ?_⟩) ?_ ?_
     rotate_left
     ·intro w'
      go_simp
      with_reducible rfl
     rotate_left
     ·exact zV8
     refine take_ (i := 5) (N := some 38) (v := ?_) (a' := ?_) #[true, true, true, true, true, true, true, false, true, false, false, false, false, false] rfl rfl (take_ofW HT_.out HW_.out (by kernel_rfl)) (fun _ _ _ h => h) (Or.inl ⟨by rfl, ?_⟩) hHeld ?_ ?_
     rotate_left
     ·rintro w' ⟨s0, s1, s2, s3, s4, s5, s6, s7, s8, s9⟩
      go_simp
      with_reducible rfl
     rotate_left
     ·exact zV8
     refine pure_ (i := 12) (N := some 8) (v := ?_) (a' := ?_) #[true, true, true, true, true, true, true, false, true, false, false, false, true, false] rfl rfl (any_of HT_.out (by kernel_rfl)) (fun _ _ _ h => h) (Or.inl ⟨by rfl, ?_⟩) ?_ ?_
     rotate_left
     ·intro w'
      go_simp
      with_reducible rfl
     rotate_left
     ·exact zV8
     refine take_ (i := 7) (N := some 40) (v := ?_) (a' := ?_) #[true, true, true, true, true, true, true, true, true, false, false, false, true, false] rfl rfl (take_ofW HT_.out HW_.out (by kernel_rfl)) (fun _ _ _ h => h) (Or.inl ⟨by rfl, ?_⟩) hHeld ?_ ?_
     rotate_left
     ·rintro w' ⟨s0, s1, s2, s3, s4, s5, s6, s7, s8, s9⟩
      go_simp
      with_reducible rfl
     rotate_left
     ·exact zV8
     refine take_ (i := 9) (N := some 42) (v := ?_) (a' := ?_) #[true, true, true, true, true, true, true, true, true, true, false, false, true, false] rfl rfl (take_ofW HT_.out HW_.out (by kernel_rfl)) (fun _ _ _ h => h) (Or.inl ⟨by rfl, ?_⟩) hHeld ?_ ?_
     rotate_left
     ·rintro w' ⟨s0, s1, s2, s3, s4, s5, s6, s7, s8, s9⟩
      go_simp
      with_reducible rfl
     rotate_left
     ·exact zV8
     refine pure_ (i := 10) (N := some 43) (v := ?_) (a' := ?_) #[true, true, true, true, true, true, true, true, true, true, true, false, true, false] rfl rfl (any_of HT_.out (by kernel_rfl)) (fun _ _ _ h => h) (Or.inl ⟨by rfl, ?_⟩) ?_ ?_
     rotate_left
     ·intro w'
      go_simp
      with_reducible rfl
     rotate_left
     ·exact zV8
     refine take_ (i := 11) (N := some 44) (v := ?_) (a' := ?_) #[true, true, true, true, true, true, true, true, true, true, true, true, true, false] rfl rfl (take_ofW HT_.out HW_.out (by kernel_rfl)) (fun _ _ _ h => h) (Or.inl ⟨by rfl, ?_⟩) hHeld ?_ ?_
     rotate_left
     ·rintro w' ⟨s0, s1, s2, s3, s4, s5, s6, s7, s8, s9⟩
      go_simp
      with_reducible rfl
     rotate_left
     ·exact zV8
     refine pure_ (i := 13) (N := some 9) (v := ?_) (a' := ?_) #[true, true, true, true, true, true, true, true, true, true, true, true, true, true] rfl rfl (any_of HT_.out (by kernel_rfl)) (fun _ _ _ h => h) (Or.inl ⟨by rfl, ?_⟩) ?_ ?_
     rotate_left
     ·intro w'
      go_simp
      with_reducible rfl
     rotate_left
     ·exact zV8
     refine done_ (done_of HT_.out (by kernel_rfl)) ?_
     have hnb58 := NB393_394.out
     have hnc58 := NB394_393.out
     have hnb59 := NB393_395.out
     have hnc59 := NB395_393.out
     obtain ⟨hcz60_0, hcz60_1, hcz60_2, hfz60_0, hfz60_1, hfz60_2⟩ := zc8_3 (w := w57) BK393.out
     go_upto_region 10 with (first | ((with_reducible refine gate_callee (f := 17) rfl ?_); refine goesL_ (some 48) rfl rfl Try.func17 (by kernel_rfl) rfl #[.int .i64 (wrap64 (t399 + 1))] rfl zT8 ?_; (with_reducible refine (impl_address.calls (wrap64 (t399 + 1)) t406 _ A55.out).mono ?_); rintro e w' ⟨rfl, ⟨nd, rfl⟩⟩; refine ⟨_, rfl, ?_⟩))
     (try simp only [Act.put, List.setIfInBounds_toArray, List.set_cons_zero, List.set_cons_succ])
     go_cut [50] (fun v50 wc => ∃ (kq : Nat) (x50_55 : Int), v50 = .int .i64 x50_55 ∧ Aside0 (impl_Work.j2 kq a2 (rd t396 a1_2) (rd t396 a1_3) (-1) t406 x50_55 t396 t399 t400 a1_0 a1_1 a1_2 a1_3 a1_4 = some (r1, r2, r3, r4)) ∧ Aside0 (kq ≤ kj38) ∧ Aside0 (Kd.R (Kd.int .i64) 3 wc w.heap.size (fun _ => True) (.slice (some ad404) t396.length co13) t396) ∧ Aside0 (wc.heap[gb393]? = some (.cells #[(.slice (some ad404) t396.length co13), .int .i64 t399, .int .i64 t400] 29 (0, 0))) ∧ Aside0 (wc.heap[gb394]? = some (.cells #[.int .i64 a1_0, .int .i64 a1_1, .int .i64 a1_2, .int .i64 a1_3, .int .i64 a1_4] 41 (0, 0))) ∧ Aside0 (wc.heap[gb395]? = some (.cells #[(.slice none 0 0), .int .i64 0, .int .i64 0] 29 (0, 0))) ∧ Aside0 (Below w.heap.size w wc))
     case first =>
      have H := HC56.out
      clear HC56
      have H' := Aside0.mk H
      clear H
      have hnb61 := NB394_393.out
      have hnc61 := NB393_394.out
      have hnb62 := NB394_395.out
      have hnc62 := NB395_394.out
      obtain ⟨hcz63_0, hcz63_1, hcz63_2, hcz63_3, hcz63_4, hfz63_0, hfz63_1, hfz63_2, hfz63_3, hfz63_4⟩ := zc8_5 (w := w57) BK394.out
      go_wp2
      go_meet
      case rel => exact ⟨_, (a1_0), (by first | rfl | (simp; done) | (simp [*]; done)), H', ⟨by have := HJ4.out; have := HJ38.out; first | omega | exact Nat.le_refl _⟩, ⟨zR8 HO_394000.out⟩, ⟨zK8 BK393.out⟩, ⟨zK8 BK394.out⟩, ⟨zK8 BK395.out⟩, ⟨zB8_3⟩⟩
     case rest =>
      clear HC56
      try clear c1
      try clear c2
      try clear p2
      try clear c3
      try clear c4
      try clear p4
      try clear q4
      try clear hx4
      try clear c5
      try clear c6
      try clear p6
      try clear c9
      try clear c10
      try clear c16
      try clear c17
      try clear c17b0
      try clear c17b1
      try clear c19
      try clear c20
      try clear c22
      try clear c24
      try clear c25
      try clear c29
      try clear c30
      try clear c33
      try clear c34
      try clear c35
      try clear c37
      try clear c38
      try clear c40
      try clear p40
      try clear q40
      try clear hx40
      try clear c41
      try clear c42
      try clear c45
      try clear c46
      try clear c47
      try clear c49
      try clear c51
      try clear c51b0
      try clear c52
      try clear c52b0
      try clear c53
      try clear c53b0
      try clear c54
      try clear c54b0
      try clear c58
      try clear c59
      try clear c61
      try clear c62
      try clear hcz11_0
      try clear hcz11_1
      try clear hcz11_2
      try clear hcz14_0
      try clear hcz14_1
      try clear hcz14_2
      try clear hcz21_0
      try clear hcz21_1
      try clear hcz21_2
      try clear hcz23_0
      try clear hcz23_1
      try clear hcz23_2
      try clear hcz26_0
      try clear hcz26_1
      try clear hcz26_2
      try clear hcz28_0
      try clear hcz28_1
      try clear hcz28_2
      try clear hcz31_0
      try clear hcz31_1
      try clear hcz31_2
      try clear hcz36_0
      try clear hcz36_1
      try clear hcz36_2
      try clear hcz38_0
      try clear hcz38_1
      try clear hcz38_2
      try clear hcz43_0
      try clear hcz43_1
      try clear hcz43_2
      try clear hcz43_3
      try clear hcz43_4
      try clear hcz48_0
      try clear hcz48_1
      try clear hcz48_2
      try clear hcz50_0
      try clear hcz50_1
      try clear hcz50_2
      try clear hcz60_0
      try clear hcz60_1
      try clear hcz60_2
      try clear hcz63_0
      try clear hcz63_1
      try clear hcz63_2
      try clear hcz63_3
      try clear hcz63_4
      try clear hfz11_0
      try clear hfz11_1
      try clear hfz11_2
      try clear hfz14_0
      try clear hfz14_1
      try clear hfz14_2
      try clear hfz21_0
      try clear hfz21_1
      try clear hfz21_2
      try clear hfz23_0
      try clear hfz23_1
      try clear hfz23_2
      try clear hfz26_0
      try clear hfz26_1
      try clear hfz26_2
      try clear hfz28_0
      try clear hfz28_1
      try clear hfz28_2
      try clear hfz31_0
      try clear hfz31_1
      try clear hfz31_2
      try clear hfz36_0
      try clear hfz36_1
      try clear hfz36_2
      try clear hfz38_0
      try clear hfz38_1
      try clear hfz38_2
      try clear hfz43_0
      try clear hfz43_1
      try clear hfz43_2
      try clear hfz43_3
      try clear hfz43_4
      try clear hfz48_0
      try clear hfz48_1
      try clear hfz48_2
      try clear hfz50_0
      try clear hfz50_1
      try clear hfz50_2
      try clear hfz60_0
      try clear hfz60_1
      try clear hfz60_2
      try clear hfz63_0
      try clear hfz63_1
      try clear hfz63_2
      try clear hfz63_3
      try clear hfz63_4
      try clear hx404_0
      try clear hx405_0
      try clear p2
      try clear p404
      try clear p405
      try clear q404
      try clear q405
      obtain ⟨kq, x50_55, rfl, HA, HJ55, HO_394000, BK393, BK394, BK395, HB⟩ := hcut
      cases kq with
      | zero => exact absurd HA.out (by simp [impl_Work.j2])
      | succ kj55 =>
       have H := HA.out
       clear HA
       simp only [impl_Work.j2] at H
       have HC64 := Aside0.mk H
       clear H
       go_upto_block 0 with (fail)
       go_cut [10, 11] (fun v10 v11 wc => ∃ (kq : Nat) (x10_63 : Int) (x11_63 : Int) (x394000_63 : List Int) (x394002_63 : Int) (u394000 : Value), v10 = .int .i64 x10_63 ∧ v11 = .int .i64 x11_63 ∧ Aside0 (impl_Work.j3 kq x10_63 x11_63 x394000_63 t399 x394002_63 = some (r1, r2, r3, r4)) ∧ Aside0 (kq ≤ kj55) ∧ Aside0 (Kd.R (Kd.int .i64) 3 wc w.heap.size (fun _ => True) u394000 x394000_63) ∧ Aside0 (wc.heap[gb393]? = some (.cells #[u394000, .int .i64 t399, .int .i64 x394002_63] 29 (0, 0))) ∧ Aside0 (wc.heap[gb394]? = some (.cells #[.int .i64 a1_0, .int .i64 a1_1, .int .i64 a1_2, .int .i64 a1_3, .int .i64 a1_4] 41 (0, 0))) ∧ Aside0 (wc.heap[gb395]? = some (.cells #[(.slice none 0 0), .int .i64 0, .int .i64 0] 29 (0, 0))) ∧ Aside0 (Below w.heap.size w wc))
       case first =>
        have H := HC64.out
        clear HC64
        by_cases c65 : x50_55 = 1
        ·rw [if_pos c65] at H
         have c65b0 : (x50_55 == 1) = true := beq_iff_eq.mpr c65
         have c65b1 : (x50_55 != 1) = false := bne_eq_false_iff_eq.mpr c65
         clear c65
         (first | rw [c65b0] | (simp only [i64_w, i32_w]; rw [c65b0]) | skip)
         by_cases c66 : 0 ≤ a1_1
         rotate_left
         ·rw [if_neg c66] at H
          exact absurd H (by simp)
         rw [if_pos c66] at H
         have c66b0 : decide (0 ≤ a1_1) = true := decide_eq_true c66
         clear c66
         by_cases c67 : a1_1 < (t396.length : Int)
         rotate_left
         ·rw [if_neg c67] at H
          exact absurd H (by simp)
         rw [if_pos c67] at H
         have c67b0 : decide (a1_1 < (t396.length : Int)) = true := decide_eq_true c67
         clear c67
         obtain ⟨y407, hy407⟩ : ∃ y_ : List Int, y_ = (t396.set (a1_1 : Int).toNat a1_4) := ⟨_, rfl⟩
         replace H : (impl_Work.j3 kj55 (-1) t406 y407 t399 t400) = some (r1, r2, r3, r4) := by first | (rw [hy407]; with_reducible exact H) | (have H2_ := (Option.bind_some _ _).symm.trans H; rw [hy407]; with_reducible exact H2_) | (have H2_ := (Option.bind_some _ _).symm.trans H; with_reducible exact H2_) | with_reducible exact H | (rw [hy407]; exact H) | exact H
         have Ny407 := Aside0.mk hy407
         clear hy407
         have H' := Aside0.mk H
         clear H
         have hnb69 := NB393_394.out
         have hnc69 := NB394_393.out
         have hnb70 := NB393_395.out
         have hnc70 := NB395_393.out
         obtain ⟨hcz71_0, hcz71_1, hcz71_2, hfz71_0, hfz71_1, hfz71_2⟩ := zc8_3 (w := wc) BK393.out
         have hnb72 := NB394_395.out
         have hnc72 := NB395_394.out
         obtain ⟨hcz73_0, hcz73_1, hcz73_2, hcz73_3, hcz73_4, hfz73_0, hfz73_1, hfz73_2, hfz73_3, hfz73_4⟩ := zc8_5 (w := wc) BK394.out
         have p68 : 0 ≤ (a1_1 : Int) := zA8
         have q68 : (a1_1 : Int) < ((t396.length : Int) : Int) := zA8
         obtain ⟨go68, co68, eo68, gb68, gl68, cl68, HG68⟩ := Kd.R_form HO_394000.out (by omega)
         (first | cases eo68 | (injection eo68 with ea_ en_ ec_; (first | subst ea_ | (injection ea_ with ea_; subst ea_)); subst ec_; clear en_))
         have GB68 := Aside0.mk gb68
         have GG68 := Aside0.mk HG68
         clear gb68 gl68 HG68
         (first | simp only [add_plain] at hx404_0 | skip)
         (first | simp only [add_plain] at hx405_0 | skip)
         obtain ⟨hx68_0, hf68_0⟩ := Kd.R_celln 0 HO_394000.out (a1_1 : Int) p68 q68
         replace p68 := eq_true p68
         replace q68 := eq_true q68
         have HP74 := Kd.R_putg HO_394000.out (a1_1 : Int) a1_4
         go_wp2_with (first | ((with_reducible refine gate_store (t := 3) (p := 59) rfl ?_); refine store_event (t := 3) (p := 59) (v := ?vo_w75) (w1 := (wc.setCell ⟨go68, (a1_1 : Int).toNat, none⟩ (.int .i64 a1_4))) ?hg ?ho ?hn ?hr ?_; (case ho => rfl); (case hg => rfl); (case hn => rfl); (case hr => first | (go_simp; done) | (go_simp; rfl)); intro w75 hw; have hg : wc.grownBy w75 (some go68) := (by rw [hw]; exact HP74.2); have hp_ : Kd.R (Kd.int .i64) 3 w75 w.heap.size (fun _ => True) (.slice (some ⟨go68, 0, none⟩) t396.length co13) y407 := (by rw [hw, Ny407.out]; exact HP74.1); clear HP74; have n0_ := Aside0.mk (hp_); have n1_ := Aside0.mk (zg8 BK393.out hg (Kd.R_ne HO_394000.out BK393.out (by decide))); have n2_ := Aside0.mk (zg8 BK394.out hg (Kd.R_ne HO_394000.out BK394.out (by decide))); have n3_ := Aside0.mk (zg8 BK395.out hg (Kd.R_ne HO_394000.out BK395.out (by decide))); have n4_ := Aside0.mk ((by rw [hw]; exact below_set (HB.out) GB68.out : Below w.heap.size w w75)); clear HO_394000; clear BK393; clear BK394; clear BK395; clear HB; have HO_394000 := n0_; have BK393 := n1_; have BK394 := n2_; have BK395 := n3_; have HB := n4_; clear n0_ n1_ n2_ n3_ n4_; clear hg hw hp_))
         go_meet
         case rel => exact ⟨_, ((-1)), (t406), (y407), (t400), (.slice (some ⟨go68, 0, none⟩) t396.length co13), (by first | rfl | (simp; done) | (simp [*]; done)), (by first | rfl | (simp; done) | (simp [*]; done)), H', ⟨by have := HJ4.out; have := HJ38.out; have := HJ55.out; first | omega | exact Nat.le_refl _⟩, ⟨zR8 HO_394000.out⟩, ⟨zK8 BK393.out⟩, ⟨zK8 BK394.out⟩, ⟨zK8 BK395.out⟩, ⟨zB8_3⟩⟩
        rw [if_neg c65] at H
        have c65b0 : (x50_55 == 1) = false := beq_eq_false_iff_ne.mpr c65
        have c65b1 : (x50_55 != 1) = true := bne_iff_ne.mpr c65
        (first | rw [c65b0] | (simp only [i64_w, i32_w]; rw [c65b0]) | skip)
        by_cases c76 : x50_55 = 2
        ·rw [if_pos c76] at H
         have c76b0 : (x50_55 == 2) = true := beq_iff_eq.mpr c76
         have c76b1 : (x50_55 != 2) = false := bne_eq_false_iff_eq.mpr c76
         clear c76
         replace H := Option.bind_eq_some_iff.mp H
         obtain ⟨t408, A770, H⟩ := H
         replace H : (if 0 ≤ a1_1 then (if a1_1 < (t396.length : Int) then (impl_Work.j3 kj55 (-1) t406 (t396.set (a1_1 : Int).toNat t408) t399 t400) else (none)) else (none)) = some (r1, r2, r3, r4) := H
         have A77 := Aside0.mk A770
         clear A770
         by_cases c78 : 0 ≤ a1_1
         rotate_left
         ·rw [if_neg c78] at H
          exact absurd H (by simp)
         rw [if_pos c78] at H
         have c78b0 : decide (0 ≤ a1_1) = true := decide_eq_true c78
         clear c78
         by_cases c79 : a1_1 < (t396.length : Int)
         rotate_left
         ·rw [if_neg c79] at H
          exact absurd H (by simp)
         rw [if_pos c79] at H
         have c79b0 : decide (a1_1 < (t396.length : Int)) = true := decide_eq_true c79
         clear c79
         obtain ⟨y409, hy409⟩ : ∃ y_ : List Int, y_ = (t396.set (a1_1 : Int).toNat t408) := ⟨_, rfl⟩
         replace H : (impl_Work.j3 kj55 (-1) t406 y409 t399 t400) = some (r1, r2, r3, r4) := by first | (rw [hy409]; with_reducible exact H) | (have H2_ := (Option.bind_some _ _).symm.trans H; rw [hy409]; with_reducible exact H2_) | (have H2_ := (Option.bind_some _ _).symm.trans H; with_reducible exact H2_) | with_reducible exact H | (rw [hy409]; exact H) | exact H
         have Ny409 := Aside0.mk hy409
         clear hy409
         have H' := Aside0.mk H
         clear H
         try go_wp2
         have n0_ := Aside0.mk (Kd.R_drew HO_394000.out)
         have n1_ := Aside0.mk (blk_drew BK393.out)
         have n2_ := Aside0.mk (blk_drew BK394.out)
         have n3_ := Aside0.mk (blk_drew BK395.out)
         have n4_ := Aside0.mk (below_drew1 HB.out)
         clear HO_394000 BK393 BK394 BK395 HB
         have HO_394000 := n0_
         have BK393 := n1_
         have BK394 := n2_
         have BK395 := n3_
         have HB := n4_
         clear n0_ n1_ n2_ n3_ n4_
         refine start_ (n := 10) (S := fun w' => w'.cell? ⟨gb393, 0, none⟩ = some (.slice (some ad404) t396.length co13) ∧ w'.cell? ⟨gb393, 1, none⟩ = some (.int .i64 t399) ∧ w'.cell? ⟨gb393, 2, none⟩ = some (.int .i64 t400) ∧ w'.cell? ⟨gb394, 0, none⟩ = some (.int .i64 a1_0) ∧ w'.cell? ⟨gb394, 1, none⟩ = some (.int .i64 a1_1) ∧ w'.cell? ⟨gb394, 2, none⟩ = some (.int .i64 a1_2) ∧ w'.cell? ⟨gb394, 3, none⟩ = some (.int .i64 a1_3) ∧ w'.cell? ⟨gb394, 4, none⟩ = some (.int .i64 a1_4)) (ds := [9]) zq8_0 (by kernel_rfl) rfl rfl ⟨(blk_cell BK393.out 0).trans rfl, (blk_cell BK393.out 1).trans rfl, (blk_cell BK393.out 2).trans rfl, (blk_cell BK394.out 0).trans rfl, (blk_cell BK394.out 1).trans rfl, (blk_cell BK394.out 2).trans rfl, (blk_cell BK394.out 3).trans rfl, (blk_cell BK394.out 4).trans rfl⟩ (fun hHeld => ?_); refine with_tabW impl_Work.tab14 impl_Work.bits14 (fun HT_ HW_ => ?_)
         generalize wc.drew = w81 at HO_394000 BK393 BK394 BK395 HB hHeld ⊢
         refine pure_ (i := 0) (N := some 62) (v := ?_) (a' := ?_) zq8_1 rfl rfl (any_of HT_.out (by kernel_rfl)) (fun _ _ _ h => h) (Or.inl ⟨by rfl, ?_⟩) ?_ ?_
         rotate_left
         ·intro w'
          go_simp
          with_reducible rfl
         rotate_left
         ·exact zV8
         refine pure_ (i := 2) (N := some 64) (v := ?_) (a' := ?_) zq8_2 rfl rfl (any_of HT_.out (by kernel_rfl)) (fun _ _ _ h => h) (Or.inl ⟨by rfl, ?_⟩) ?_ ?_
         rotate_left
         ·intro w'
          go_simp
          with_reducible rfl
         rotate_left
         ·exact zV8
         refine pure_ (i := 4) (N := some 66) (v := ?_) (a' := ?_) zq8_3 rfl rfl (any_of HT_.out (by kernel_rfl)) (fun _ _ _ h => h) (Or.inl ⟨by rfl, ?_⟩) ?_ ?_
         rotate_left
         ·intro w'
          go_simp
          with_reducible rfl
         rotate_left
         ·exact zV8
         refine pure_ (i := 5) (N := some 67) (v := ?_) (a' := ?_) zq8_4 rfl rfl (any_of HT_.out (by kernel_rfl)) (fun _ _ _ h => h) (Or.inl ⟨by rfl, ?_⟩) ?_ ?_
         rotate_left
         ·intro w'
          go_simp
          with_reducible rfl
         rotate_left
         ·exact zV8
         refine pure_ (i := 6) (N := some 68) (v := ?_) (a' := ?_) zq8_5 rfl rfl (any_of HT_.out (by kernel_rfl)) (fun _ _ _ h => h) (Or.inl ⟨by rfl, ?_⟩) ?_ ?_
         rotate_left
         ·intro w'
          go_simp
          with_reducible rfl
         rotate_left
         ·exact zV8
         refine take_ (i := 1) (N := some 63) (v := ?_) (a' := ?_) zq8_6 rfl rfl (take_ofW HT_.out HW_.out (by kernel_rfl)) (fun _ _ _ h => h) (Or.inl ⟨by rfl, ?_⟩) hHeld ?_ ?_
         rotate_left
         ·rintro w' ⟨s0, s1, s2, s3, s4, s5, s6, s7⟩
          go_simp
          with_reducible rfl
         rotate_left
         ·exact zV8
         refine take_ (i := 3) (N := some 65) (v := ?_) (a' := ?_) zq8_7 rfl rfl (take_ofW HT_.out HW_.out (by kernel_rfl)) (fun _ _ _ h => h) (Or.inl ⟨by rfl, ?_⟩) hHeld ?_ ?_
         rotate_left
         ·rintro w' ⟨s0, s1, s2, s3, s4, s5, s6, s7⟩
          go_simp
          with_reducible rfl
         rotate_left
         ·exact zV8
         refine one_ (i := 7) (N := some 69) zq8_8 rfl rfl (one_of HT_.out (by kernel_rfl)) (by decide) (fun K hK => ?_)
         refine goes_ Try.func66 (by kernel_rfl) rfl #[.int .i64 (wrap64 ((rd t396 a1_2) + (rd t396 a1_3)))] (by rfl) rfl rfl zT8 ?_
         with_reducible refine (impl_wrapped.calls (wrap64 ((rd t396 a1_2) + (rd t396 a1_3))) t408 _ A77.out).mono ?_
         rintro e w' ⟨rfl, ⟨nd, rfl⟩⟩
         refine ⟨_, rfl, ?_⟩
         (try (rw [drewN_self w81]; generalize hq_ : World.drewN w81 _ = w81; have n0_ : Aside0 (Kd.R (Kd.int .i64) 3 w81 w.heap.size (fun _ => True) (.slice (some ad404) t396.length co13) t396) := ⟨by rw [← hq_]; exact (zR8 HO_394000.out)⟩; have n1_ : Aside0 (w81.heap[gb393]? = some (.cells #[.slice (some ad404) t396.length co13, .int .i64 t399, .int .i64 t400] 29 (0, 0))) := ⟨by rw [← hq_]; exact (zK8 BK393.out)⟩; have n2_ : Aside0 (w81.heap[gb394]? = some (.cells #[.int .i64 a1_0, .int .i64 a1_1, .int .i64 a1_2, .int .i64 a1_3, .int .i64 a1_4] 41 (0, 0))) := ⟨by rw [← hq_]; exact (zK8 BK394.out)⟩; have n3_ : Aside0 (w81.heap[gb395]? = some (.cells #[.slice none 0 0, .int .i64 0, .int .i64 0] 29 (0, 0))) := ⟨by rw [← hq_]; exact (zK8 BK395.out)⟩; have n4_ : Aside0 (Below w.heap.size w w81) := ⟨by rw [← hq_]; exact (zB8_3)⟩; clear HO_394000 BK393 BK394 BK395 HB hq_; have HO_394000 := n0_; have BK393 := n1_; have BK394 := n2_; have BK395 := n3_; have HB := n4_; clear n0_ n1_ n2_ n3_ n4_))
         have p80 : 0 ≤ (a1_1 : Int) := zA8
         have q80 : (a1_1 : Int) < ((t396.length : Int) : Int) := zA8
         obtain ⟨go80, co80, eo80, gb80, gl80, cl80, HG80⟩ := Kd.R_form HO_394000.out (by omega)
         (first | cases eo80 | (injection eo80 with ea_ en_ ec_; (first | subst ea_ | (injection ea_ with ea_; subst ea_)); subst ec_; clear en_))
         have GB80 := Aside0.mk gb80
         have GG80 := Aside0.mk HG80
         clear gb80 gl80 HG80
         obtain ⟨hx80_0, hf80_0⟩ := Kd.R_celln 0 HO_394000.out (a1_1 : Int) p80 q80
         replace p80 := eq_true p80
         replace q80 := eq_true q80
         have HP82 := Kd.R_putn HO_394000.out (a1_1 : Int) t408
         rw [← Ny409.out] at HP82
         have HQ82 := Aside0.mk HP82
         clear HP82
         refine hK.out _ _ ⟨(blk_cell BK393.out 0).trans rfl, (blk_cell BK393.out 1).trans rfl, (blk_cell BK393.out 2).trans rfl, (blk_cell BK394.out 0).trans rfl, (blk_cell BK394.out 1).trans rfl, (blk_cell BK394.out 2).trans rfl, (blk_cell BK394.out 3).trans rfl, (blk_cell BK394.out 4).trans rfl⟩ (fun hHeld => ?_)
         clear hK K
         refine norm_ (a' := ?_) ?_ ?_
         rotate_left
         ·show Act.put _ (some 69) _ = _
          simp only [Act.put, List.setIfInBounds_toArray, List.set_cons_zero, List.set_cons_succ, i64_w, i32_w]
          rfl
         refine pure_ (i := 8) (N := some 70) (v := ?_) (a' := ?_) zq8_9 rfl rfl (any_of HT_.out (by kernel_rfl)) (fun _ _ _ h => h) (Or.inl ⟨by rfl, ?_⟩) ?_ ?_
         rotate_left
         ·intro w'
          go_simp
          with_reducible rfl
         rotate_left
         ·exact zV8
         refine last_ (i := 9) (N := none) zq8_10 rfl rfl (one_of HT_.out (by kernel_rfl)) (by decide) (fun K hK => ?_)
         refine skip_ (w1 := ?_) (by rfl) rfl ?_ ?_
         rotate_left
         ·go_simp
          rfl
         refine hK.out _ _ ?_
         clear hK K
         refine done_ (done_of HT_.out (by kernel_rfl)) ?_
         try go_wp2
         go_meet
         case rel => exact ⟨_, ((-1)), (t406), (y409), (t400), (.slice (some ⟨go80, 0, none⟩) t396.length co13), (by first | rfl | (simp; done) | (simp [*]; done)), (by first | rfl | (simp; done) | (simp [*]; done)), H', ⟨by have := HJ4.out; have := HJ38.out; have := HJ55.out; first | omega | exact Nat.le_refl _⟩, ⟨zR8 HQ82.out⟩, ⟨by refine zP8 ?_; refine blk_far ?_ (by have h_ := Kd.R_ne HO_394000.out BK393.out (by decide); intro e_; exact h_ (by rw [e_]; rfl)) _; refine zP8 ?_; exact BK393.out⟩, ⟨by refine zP8 ?_; refine blk_far ?_ (by have h_ := Kd.R_ne HO_394000.out BK394.out (by decide); intro e_; exact h_ (by rw [e_]; rfl)) _; refine zP8 ?_; exact BK394.out⟩, ⟨by refine zP8 ?_; refine blk_far ?_ (by have h_ := Kd.R_ne HO_394000.out BK395.out (by decide); intro e_; exact h_ (by rw [e_]; rfl)) _; refine zP8 ?_; exact BK395.out⟩, ⟨zB8_4⟩⟩
        rw [if_neg c76] at H
        have c76b0 : (x50_55 == 2) = false := beq_eq_false_iff_ne.mpr c76
        have c76b1 : (x50_55 != 2) = true := bne_iff_ne.mpr c76
        by_cases c83 : x50_55 = 10
        ·rw [if_pos c83] at H
         have c83b0 : (x50_55 == 10) = true := beq_iff_eq.mpr c83
         have c83b1 : (x50_55 != 10) = false := bne_eq_false_iff_eq.mpr c83
         clear c83
         replace H := Option.bind_eq_some_iff.mp H
         obtain ⟨t410, A840, H⟩ := H
         replace H : (if 0 ≤ a1_1 then (if a1_1 < (t396.length : Int) then (impl_Work.j3 kj55 (-1) t406 (t396.set (a1_1 : Int).toNat t410) t399 t400) else (none)) else (none)) = some (r1, r2, r3, r4) := H
         have A84 := Aside0.mk A840
         clear A840
         by_cases c85 : 0 ≤ a1_1
         rotate_left
         ·rw [if_neg c85] at H
          exact absurd H (by simp)
         rw [if_pos c85] at H
         have c85b0 : decide (0 ≤ a1_1) = true := decide_eq_true c85
         clear c85
         by_cases c86 : a1_1 < (t396.length : Int)
         rotate_left
         ·rw [if_neg c86] at H
          exact absurd H (by simp)
         rw [if_pos c86] at H
         have c86b0 : decide (a1_1 < (t396.length : Int)) = true := decide_eq_true c86
         clear c86
         obtain ⟨y411, hy411⟩ : ∃ y_ : List Int, y_ = (t396.set (a1_1 : Int).toNat t410) := ⟨_, rfl⟩
         replace H : (impl_Work.j3 kj55 (-1) t406 y411 t399 t400) = some (r1, r2, r3, r4) := by first | (rw [hy411]; with_reducible exact H) | (have H2_ := (Option.bind_some _ _).symm.trans H; rw [hy411]; with_reducible exact H2_) | (have H2_ := (Option.bind_some _ _).symm.trans H; with_reducible exact H2_) | with_reducible exact H | (rw [hy411]; exact H) | exact H
         have Ny411 := Aside0.mk hy411
         clear hy411
         have H' := Aside0.mk H
         clear H
         try go_wp2
         have n0_ := Aside0.mk (Kd.R_drew HO_394000.out)
         have n1_ := Aside0.mk (blk_drew BK393.out)
         have n2_ := Aside0.mk (blk_drew BK394.out)
         have n3_ := Aside0.mk (blk_drew BK395.out)
         have n4_ := Aside0.mk (below_drew1 HB.out)
         clear HO_394000 BK393 BK394 BK395 HB
         have HO_394000 := n0_
         have BK393 := n1_
         have BK394 := n2_
         have BK395 := n3_
         have HB := n4_
         clear n0_ n1_ n2_ n3_ n4_
         refine start_ (n := 10) (S := fun w' => w'.cell? ⟨gb393, 0, none⟩ = some (.slice (some ad404) t396.length co13) ∧ w'.cell? ⟨gb393, 1, none⟩ = some (.int .i64 t399) ∧ w'.cell? ⟨gb393, 2, none⟩ = some (.int .i64 t400) ∧ w'.cell? ⟨gb394, 0, none⟩ = some (.int .i64 a1_0) ∧ w'.cell? ⟨gb394, 1, none⟩ = some (.int .i64 a1_1) ∧ w'.cell? ⟨gb394, 2, none⟩ = some (.int .i64 a1_2) ∧ w'.cell? ⟨gb394, 3, none⟩ = some (.int .i64 a1_3) ∧ w'.cell? ⟨gb394, 4, none⟩ = some (.int .i64 a1_4)) (ds := [9]) zq8_0 (by kernel_rfl) rfl rfl ⟨(blk_cell BK393.out 0).trans rfl, (blk_cell BK393.out 1).trans rfl, (blk_cell BK393.out 2).trans rfl, (blk_cell BK394.out 0).trans rfl, (blk_cell BK394.out 1).trans rfl, (blk_cell BK394.out 2).trans rfl, (blk_cell BK394.out 3).trans rfl, (blk_cell BK394.out 4).trans rfl⟩ (fun hHeld => ?_); refine with_tabW impl_Work.tab16 impl_Work.bits16 (fun HT_ HW_ => ?_)
         generalize wc.drew = w88 at HO_394000 BK393 BK394 BK395 HB hHeld ⊢
         refine pure_ (i := 0) (N := some 73) (v := ?_) (a' := ?_) zq8_1 rfl rfl (any_of HT_.out (by kernel_rfl)) (fun _ _ _ h => h) (Or.inl ⟨by rfl, ?_⟩) ?_ ?_
         rotate_left
         ·intro w'
          go_simp
          with_reducible rfl
         rotate_left
         ·exact zV8
         refine pure_ (i := 2) (N := some 75) (v := ?_) (a' := ?_) zq8_2 rfl rfl (any_of HT_.out (by kernel_rfl)) (fun _ _ _ h => h) (Or.inl ⟨by rfl, ?_⟩) ?_ ?_
         rotate_left
         ·intro w'
          go_simp
          with_reducible rfl
         rotate_left
         ·exact zV8
         refine pure_ (i := 4) (N := some 77) (v := ?_) (a' := ?_) zq8_3 rfl rfl (any_of HT_.out (by kernel_rfl)) (fun _ _ _ h => h) (Or.inl ⟨by rfl, ?_⟩) ?_ ?_
         rotate_left
         ·intro w'
          go_simp
          with_reducible rfl
         rotate_left
         ·exact zV8
         refine pure_ (i := 5) (N := some 78) (v := ?_) (a' := ?_) zq8_4 rfl rfl (any_of HT_.out (by kernel_rfl)) (fun _ _ _ h => h) (Or.inl ⟨by rfl, ?_⟩) ?_ ?_
         rotate_left
         ·intro w'
          go_simp
          with_reducible rfl
         rotate_left
         ·exact zV8
         refine pure_ (i := 6) (N := some 79) (v := ?_) (a' := ?_) zq8_5 rfl rfl (any_of HT_.out (by kernel_rfl)) (fun _ _ _ h => h) (Or.inl ⟨by rfl, ?_⟩) ?_ ?_
         rotate_left
         ·intro w'
          go_simp
          with_reducible rfl
         rotate_left
         ·exact zV8
         refine take_ (i := 1) (N := some 74) (v := ?_) (a' := ?_) zq8_6 rfl rfl (take_ofW HT_.out HW_.out (by kernel_rfl)) (fun _ _ _ h => h) (Or.inl ⟨by rfl, ?_⟩) hHeld ?_ ?_
         rotate_left
         ·rintro w' ⟨s0, s1, s2, s3, s4, s5, s6, s7⟩
          go_simp
          with_reducible rfl
         rotate_left
         ·exact zV8
         refine take_ (i := 3) (N := some 76) (v := ?_) (a' := ?_) zq8_7 rfl rfl (take_ofW HT_.out HW_.out (by kernel_rfl)) (fun _ _ _ h => h) (Or.inl ⟨by rfl, ?_⟩) hHeld ?_ ?_
         rotate_left
         ·rintro w' ⟨s0, s1, s2, s3, s4, s5, s6, s7⟩
          go_simp
          with_reducible rfl
         rotate_left
         ·exact zV8
         refine one_ (i := 7) (N := some 80) zq8_8 rfl rfl (one_of HT_.out (by kernel_rfl)) (by decide) (fun K hK => ?_)
         refine goes_ Try.func66 (by kernel_rfl) rfl #[.int .i64 (wrap64 ((rd t396 a1_2) - (rd t396 a1_3)))] (by rfl) rfl rfl zT8 ?_
         with_reducible refine (impl_wrapped.calls (wrap64 ((rd t396 a1_2) - (rd t396 a1_3))) t410 _ A84.out).mono ?_
         rintro e w' ⟨rfl, ⟨nd, rfl⟩⟩
         refine ⟨_, rfl, ?_⟩
         (try (rw [drewN_self w88]; generalize hq_ : World.drewN w88 _ = w88; have n0_ : Aside0 (Kd.R (Kd.int .i64) 3 w88 w.heap.size (fun _ => True) (.slice (some ad404) t396.length co13) t396) := ⟨by rw [← hq_]; exact (zR8 HO_394000.out)⟩; have n1_ : Aside0 (w88.heap[gb393]? = some (.cells #[.slice (some ad404) t396.length co13, .int .i64 t399, .int .i64 t400] 29 (0, 0))) := ⟨by rw [← hq_]; exact (zK8 BK393.out)⟩; have n2_ : Aside0 (w88.heap[gb394]? = some (.cells #[.int .i64 a1_0, .int .i64 a1_1, .int .i64 a1_2, .int .i64 a1_3, .int .i64 a1_4] 41 (0, 0))) := ⟨by rw [← hq_]; exact (zK8 BK394.out)⟩; have n3_ : Aside0 (w88.heap[gb395]? = some (.cells #[.slice none 0 0, .int .i64 0, .int .i64 0] 29 (0, 0))) := ⟨by rw [← hq_]; exact (zK8 BK395.out)⟩; have n4_ : Aside0 (Below w.heap.size w w88) := ⟨by rw [← hq_]; exact (zB8_3)⟩; clear HO_394000 BK393 BK394 BK395 HB hq_; have HO_394000 := n0_; have BK393 := n1_; have BK394 := n2_; have BK395 := n3_; have HB := n4_; clear n0_ n1_ n2_ n3_ n4_))
         have p87 : 0 ≤ (a1_1 : Int) := zA8
         have q87 : (a1_1 : Int) < ((t396.length : Int) : Int) := zA8
         obtain ⟨go87, co87, eo87, gb87, gl87, cl87, HG87⟩ := Kd.R_form HO_394000.out (by omega)
         (first | cases eo87 | (injection eo87 with ea_ en_ ec_; (first | subst ea_ | (injection ea_ with ea_; subst ea_)); subst ec_; clear en_))
         have GB87 := Aside0.mk gb87
         have GG87 := Aside0.mk HG87
         clear gb87 gl87 HG87
         obtain ⟨hx87_0, hf87_0⟩ := Kd.R_celln 0 HO_394000.out (a1_1 : Int) p87 q87
         replace p87 := eq_true p87
         replace q87 := eq_true q87
         have HP89 := Kd.R_putn HO_394000.out (a1_1 : Int) t410
         rw [← Ny411.out] at HP89
         have HQ89 := Aside0.mk HP89
         clear HP89
         refine hK.out _ _ ⟨(blk_cell BK393.out 0).trans rfl, (blk_cell BK393.out 1).trans rfl, (blk_cell BK393.out 2).trans rfl, (blk_cell BK394.out 0).trans rfl, (blk_cell BK394.out 1).trans rfl, (blk_cell BK394.out 2).trans rfl, (blk_cell BK394.out 3).trans rfl, (blk_cell BK394.out 4).trans rfl⟩ (fun hHeld => ?_)
         clear hK K
         refine norm_ (a' := ?_) ?_ ?_
         rotate_left
         ·show Act.put _ (some 80) _ = _
          simp only [Act.put, List.setIfInBounds_toArray, List.set_cons_zero, List.set_cons_succ, i64_w, i32_w]
          rfl
         refine pure_ (i := 8) (N := some 81) (v := ?_) (a' := ?_) zq8_9 rfl rfl (any_of HT_.out (by kernel_rfl)) (fun _ _ _ h => h) (Or.inl ⟨by rfl, ?_⟩) ?_ ?_
         rotate_left
         ·intro w'
          go_simp
          with_reducible rfl
         rotate_left
         ·exact zV8
         refine last_ (i := 9) (N := none) zq8_10 rfl rfl (one_of HT_.out (by kernel_rfl)) (by decide) (fun K hK => ?_)
         refine skip_ (w1 := ?_) (by rfl) rfl ?_ ?_
         rotate_left
         ·go_simp
          rfl
         refine hK.out _ _ ?_
         clear hK K
         refine done_ (done_of HT_.out (by kernel_rfl)) ?_
         try go_wp2
         go_meet
         case rel => exact ⟨_, ((-1)), (t406), (y411), (t400), (.slice (some ⟨go87, 0, none⟩) t396.length co13), (by first | rfl | (simp; done) | (simp [*]; done)), (by first | rfl | (simp; done) | (simp [*]; done)), H', ⟨by have := HJ4.out; have := HJ38.out; have := HJ55.out; first | omega | exact Nat.le_refl _⟩, ⟨zR8 HQ89.out⟩, ⟨by refine zP8 ?_; refine blk_far ?_ (by have h_ := Kd.R_ne HO_394000.out BK393.out (by decide); intro e_; exact h_ (by rw [e_]; rfl)) _; refine zP8 ?_; exact BK393.out⟩, ⟨by refine zP8 ?_; refine blk_far ?_ (by have h_ := Kd.R_ne HO_394000.out BK394.out (by decide); intro e_; exact h_ (by rw [e_]; rfl)) _; refine zP8 ?_; exact BK394.out⟩, ⟨by refine zP8 ?_; refine blk_far ?_ (by have h_ := Kd.R_ne HO_394000.out BK395.out (by decide); intro e_; exact h_ (by rw [e_]; rfl)) _; refine zP8 ?_; exact BK395.out⟩, ⟨zB8_5⟩⟩
        rw [if_neg c83] at H
        have c83b0 : (x50_55 == 10) = false := beq_eq_false_iff_ne.mpr c83
        have c83b1 : (x50_55 != 10) = true := bne_iff_ne.mpr c83
        by_cases c90 : x50_55 = 3
        ·rw [if_pos c90] at H
         have c90b0 : (x50_55 == 3) = true := beq_iff_eq.mpr c90
         have c90b1 : (x50_55 != 3) = false := bne_eq_false_iff_eq.mpr c90
         clear c90
         replace H := Option.bind_eq_some_iff.mp H
         obtain ⟨t412, A910, H⟩ := H
         replace H : (if 0 ≤ a1_1 then (if a1_1 < (t396.length : Int) then (impl_Work.j3 kj55 (-1) t406 (t396.set (a1_1 : Int).toNat t412) t399 t400) else (none)) else (none)) = some (r1, r2, r3, r4) := H
         have A91 := Aside0.mk A910
         clear A910
         by_cases c92 : 0 ≤ a1_1
         rotate_left
         ·rw [if_neg c92] at H
          exact absurd H (by simp)
         rw [if_pos c92] at H
         have c92b0 : decide (0 ≤ a1_1) = true := decide_eq_true c92
         clear c92
         by_cases c93 : a1_1 < (t396.length : Int)
         rotate_left
         ·rw [if_neg c93] at H
          exact absurd H (by simp)
         rw [if_pos c93] at H
         have c93b0 : decide (a1_1 < (t396.length : Int)) = true := decide_eq_true c93
         clear c93
         obtain ⟨y413, hy413⟩ : ∃ y_ : List Int, y_ = (t396.set (a1_1 : Int).toNat t412) := ⟨_, rfl⟩
         replace H : (impl_Work.j3 kj55 (-1) t406 y413 t399 t400) = some (r1, r2, r3, r4) := by first | (rw [hy413]; with_reducible exact H) | (have H2_ := (Option.bind_some _ _).symm.trans H; rw [hy413]; with_reducible exact H2_) | (have H2_ := (Option.bind_some _ _).symm.trans H; with_reducible exact H2_) | with_reducible exact H | (rw [hy413]; exact H) | exact H
         have Ny413 := Aside0.mk hy413
         clear hy413
         have H' := Aside0.mk H
         clear H
         try go_wp2
         have n0_ := Aside0.mk (Kd.R_drew HO_394000.out)
         have n1_ := Aside0.mk (blk_drew BK393.out)
         have n2_ := Aside0.mk (blk_drew BK394.out)
         have n3_ := Aside0.mk (blk_drew BK395.out)
         have n4_ := Aside0.mk (below_drew1 HB.out)
         clear HO_394000 BK393 BK394 BK395 HB
         have HO_394000 := n0_
         have BK393 := n1_
         have BK394 := n2_
         have BK395 := n3_
         have HB := n4_
         clear n0_ n1_ n2_ n3_ n4_
         refine start_ (n := 11) (S := fun w' => w'.cell? ⟨gb393, 0, none⟩ = some (.slice (some ad404) t396.length co13) ∧ w'.cell? ⟨gb393, 1, none⟩ = some (.int .i64 t399) ∧ w'.cell? ⟨gb393, 2, none⟩ = some (.int .i64 t400) ∧ w'.cell? ⟨gb394, 0, none⟩ = some (.int .i64 a1_0) ∧ w'.cell? ⟨gb394, 1, none⟩ = some (.int .i64 a1_1) ∧ w'.cell? ⟨gb394, 2, none⟩ = some (.int .i64 a1_2) ∧ w'.cell? ⟨gb394, 3, none⟩ = some (.int .i64 a1_3) ∧ w'.cell? ⟨gb394, 4, none⟩ = some (.int .i64 a1_4)) (ds := [10]) #[false, false, false, false, false, false, false, false, false, false, false] (by kernel_rfl) rfl rfl ⟨(blk_cell BK393.out 0).trans rfl, (blk_cell BK393.out 1).trans rfl, (blk_cell BK393.out 2).trans rfl, (blk_cell BK394.out 0).trans rfl, (blk_cell BK394.out 1).trans rfl, (blk_cell BK394.out 2).trans rfl, (blk_cell BK394.out 3).trans rfl, (blk_cell BK394.out 4).trans rfl⟩ (fun hHeld => ?_); refine with_tabW impl_Work.tab18 impl_Work.bits18 (fun HT_ HW_ => ?_)
         generalize wc.drew = w95 at HO_394000 BK393 BK394 BK395 HB hHeld ⊢
         refine pure_ (i := 0) (N := some 84) (v := ?_) (a' := ?_) #[true, false, false, false, false, false, false, false, false, false, false] rfl rfl (any_of HT_.out (by kernel_rfl)) (fun _ _ _ h => h) (Or.inl ⟨by rfl, ?_⟩) ?_ ?_
         rotate_left
         ·intro w'
          go_simp
          with_reducible rfl
         rotate_left
         ·exact zV8
         refine pure_ (i := 2) (N := some 86) (v := ?_) (a' := ?_) #[true, false, true, false, false, false, false, false, false, false, false] rfl rfl (any_of HT_.out (by kernel_rfl)) (fun _ _ _ h => h) (Or.inl ⟨by rfl, ?_⟩) ?_ ?_
         rotate_left
         ·intro w'
          go_simp
          with_reducible rfl
         rotate_left
         ·exact zV8
         refine pure_ (i := 4) (N := some 88) (v := ?_) (a' := ?_) #[true, false, true, false, true, false, false, false, false, false, false] rfl rfl (any_of HT_.out (by kernel_rfl)) (fun _ _ _ h => h) (Or.inl ⟨by rfl, ?_⟩) ?_ ?_
         rotate_left
         ·intro w'
          go_simp
          with_reducible rfl
         rotate_left
         ·exact zV8
         refine pure_ (i := 5) (N := some 89) (v := ?_) (a' := ?_) #[true, false, true, false, true, true, false, false, false, false, false] rfl rfl (any_of HT_.out (by kernel_rfl)) (fun _ _ _ h => h) (Or.inl ⟨by rfl, ?_⟩) ?_ ?_
         rotate_left
         ·intro w'
          go_simp
          with_reducible rfl
         rotate_left
         ·exact zV8
         refine take_ (i := 1) (N := some 85) (v := ?_) (a' := ?_) #[true, true, true, false, true, true, false, false, false, false, false] rfl rfl (take_ofW HT_.out HW_.out (by kernel_rfl)) (fun _ _ _ h => h) (Or.inl ⟨by rfl, ?_⟩) hHeld ?_ ?_
         rotate_left
         ·rintro w' ⟨s0, s1, s2, s3, s4, s5, s6, s7⟩
          go_simp
          with_reducible rfl
         rotate_left
         ·exact zV8
         refine take_ (i := 3) (N := some 87) (v := ?_) (a' := ?_) #[true, true, true, true, true, true, false, false, false, false, false] rfl rfl (take_ofW HT_.out HW_.out (by kernel_rfl)) (fun _ _ _ h => h) (Or.inl ⟨by rfl, ?_⟩) hHeld ?_ ?_
         rotate_left
         ·rintro w' ⟨s0, s1, s2, s3, s4, s5, s6, s7⟩
          go_simp
          with_reducible rfl
         rotate_left
         ·exact zV8
         refine take_ (i := 6) (N := some 90) (v := ?_) (a' := ?_) #[true, true, true, true, true, true, true, false, false, false, false] rfl rfl (take_ofW HT_.out HW_.out (by kernel_rfl)) (fun _ _ _ h => h) (Or.inl ⟨by rfl, ?_⟩) hHeld ?_ ?_
         rotate_left
         ·rintro w' ⟨s0, s1, s2, s3, s4, s5, s6, s7⟩
          go_simp
          with_reducible rfl
         rotate_left
         ·exact zV8
         refine pure_ (i := 7) (N := some 91) (v := ?_) (a' := ?_) #[true, true, true, true, true, true, true, true, false, false, false] rfl rfl (any_of HT_.out (by kernel_rfl)) (fun _ _ _ h => h) (Or.inl ⟨by rfl, ?_⟩) ?_ ?_
         rotate_left
         ·intro w'
          go_simp
          with_reducible rfl
         rotate_left
         ·exact zV8
         refine one_ (i := 8) (N := some 92) #[true, true, true, true, true, true, true, true, true, false, false] rfl rfl (one_of HT_.out (by kernel_rfl)) (by decide) (fun K hK => ?_)
         refine goes_ Try.func66 (by kernel_rfl) rfl #[.int .i64 (wrap64 ((rd t396 a1_2) + a1_4))] (by rfl) rfl rfl zT8 ?_
         with_reducible refine (impl_wrapped.calls (wrap64 ((rd t396 a1_2) + a1_4)) t412 _ A91.out).mono ?_
         rintro e w' ⟨rfl, ⟨nd, rfl⟩⟩
         refine ⟨_, rfl, ?_⟩
         (try (rw [drewN_self w95]; generalize hq_ : World.drewN w95 _ = w95; have n0_ : Aside0 (Kd.R (Kd.int .i64) 3 w95 w.heap.size (fun _ => True) (.slice (some ad404) t396.length co13) t396) := ⟨by rw [← hq_]; exact (zR8 HO_394000.out)⟩; have n1_ : Aside0 (w95.heap[gb393]? = some (.cells #[.slice (some ad404) t396.length co13, .int .i64 t399, .int .i64 t400] 29 (0, 0))) := ⟨by rw [← hq_]; exact (zK8 BK393.out)⟩; have n2_ : Aside0 (w95.heap[gb394]? = some (.cells #[.int .i64 a1_0, .int .i64 a1_1, .int .i64 a1_2, .int .i64 a1_3, .int .i64 a1_4] 41 (0, 0))) := ⟨by rw [← hq_]; exact (zK8 BK394.out)⟩; have n3_ : Aside0 (w95.heap[gb395]? = some (.cells #[.slice none 0 0, .int .i64 0, .int .i64 0] 29 (0, 0))) := ⟨by rw [← hq_]; exact (zK8 BK395.out)⟩; have n4_ : Aside0 (Below w.heap.size w w95) := ⟨by rw [← hq_]; exact (zB8_3)⟩; clear HO_394000 BK393 BK394 BK395 HB hq_; have HO_394000 := n0_; have BK393 := n1_; have BK394 := n2_; have BK395 := n3_; have HB := n4_; clear n0_ n1_ n2_ n3_ n4_))
         have p94 : 0 ≤ (a1_1 : Int) := zA8
         have q94 : (a1_1 : Int) < ((t396.length : Int) : Int) := zA8
         obtain ⟨go94, co94, eo94, gb94, gl94, cl94, HG94⟩ := Kd.R_form HO_394000.out (by omega)
         (first | cases eo94 | (injection eo94 with ea_ en_ ec_; (first | subst ea_ | (injection ea_ with ea_; subst ea_)); subst ec_; clear en_))
         have GB94 := Aside0.mk gb94
         have GG94 := Aside0.mk HG94
         clear gb94 gl94 HG94
         obtain ⟨hx94_0, hf94_0⟩ := Kd.R_celln 0 HO_394000.out (a1_1 : Int) p94 q94
         replace p94 := eq_true p94
         replace q94 := eq_true q94
         have HP96 := Kd.R_putn HO_394000.out (a1_1 : Int) t412
         rw [← Ny413.out] at HP96
         have HQ96 := Aside0.mk HP96
         clear HP96
         refine hK.out _ _ ⟨(blk_cell BK393.out 0).trans rfl, (blk_cell BK393.out 1).trans rfl, (blk_cell BK393.out 2).trans rfl, (blk_cell BK394.out 0).trans rfl, (blk_cell BK394.out 1).trans rfl, (blk_cell BK394.out 2).trans rfl, (blk_cell BK394.out 3).trans rfl, (blk_cell BK394.out 4).trans rfl⟩ (fun hHeld => ?_)
         clear hK K
         refine norm_ (a' := ?_) ?_ ?_
         rotate_left
         ·show Act.put _ (some 92) _ = _
          simp only [Act.put, List.setIfInBounds_toArray, List.set_cons_zero, List.set_cons_succ, i64_w, i32_w]
          rfl
         refine pure_ (i := 9) (N := some 93) (v := ?_) (a' := ?_) #[true, true, true, true, true, true, true, true, true, true, false] rfl rfl (any_of HT_.out (by kernel_rfl)) (fun _ _ _ h => h) (Or.inl ⟨by rfl, ?_⟩) ?_ ?_
         rotate_left
         ·intro w'
          go_simp
          with_reducible rfl
         rotate_left
         ·exact zV8
         refine last_ (i := 10) (N := none) #[true, true, true, true, true, true, true, true, true, true, true] rfl rfl (one_of HT_.out (by kernel_rfl)) (by decide) (fun K hK => ?_)
         refine skip_ (w1 := ?_) (by rfl) rfl ?_ ?_
         rotate_left
         ·go_simp
          rfl
         refine hK.out _ _ ?_
         clear hK K
         refine done_ (done_of HT_.out (by kernel_rfl)) ?_
         try go_wp2
         go_meet
         case rel => exact ⟨_, ((-1)), (t406), (y413), (t400), (.slice (some ⟨go94, 0, none⟩) t396.length co13), (by first | rfl | (simp; done) | (simp [*]; done)), (by first | rfl | (simp; done) | (simp [*]; done)), H', ⟨by have := HJ4.out; have := HJ38.out; have := HJ55.out; first | omega | exact Nat.le_refl _⟩, ⟨zR8 HQ96.out⟩, ⟨by refine zP8 ?_; refine blk_far ?_ (by have h_ := Kd.R_ne HO_394000.out BK393.out (by decide); intro e_; exact h_ (by rw [e_]; rfl)) _; refine zP8 ?_; exact BK393.out⟩, ⟨by refine zP8 ?_; refine blk_far ?_ (by have h_ := Kd.R_ne HO_394000.out BK394.out (by decide); intro e_; exact h_ (by rw [e_]; rfl)) _; refine zP8 ?_; exact BK394.out⟩, ⟨by refine zP8 ?_; refine blk_far ?_ (by have h_ := Kd.R_ne HO_394000.out BK395.out (by decide); intro e_; exact h_ (by rw [e_]; rfl)) _; refine zP8 ?_; exact BK395.out⟩, ⟨zB8_6⟩⟩
        rw [if_neg c90] at H
        have c90b0 : (x50_55 == 3) = false := beq_eq_false_iff_ne.mpr c90
        have c90b1 : (x50_55 != 3) = true := bne_iff_ne.mpr c90
        by_cases c97 : x50_55 = 4
        ·rw [if_pos c97] at H
         have c97b0 : (x50_55 == 4) = true := beq_iff_eq.mpr c97
         have c97b1 : (x50_55 != 4) = false := bne_eq_false_iff_eq.mpr c97
         clear c97
         by_cases c98 : 0 ≤ a1_1
         rotate_left
         ·rw [if_neg c98] at H
          exact absurd H (by simp)
         rw [if_pos c98] at H
         have c98b0 : decide (0 ≤ a1_1) = true := decide_eq_true c98
         clear c98
         by_cases c99 : a1_1 < (t396.length : Int)
         rotate_left
         ·rw [if_neg c99] at H
          exact absurd H (by simp)
         rw [if_pos c99] at H
         have c99b0 : decide (a1_1 < (t396.length : Int)) = true := decide_eq_true c99
         clear c99
         obtain ⟨y414, hy414⟩ : ∃ y_ : List Int, y_ = (t396.set (a1_1 : Int).toNat a2) := ⟨_, rfl⟩
         replace H : (impl_Work.j3 kj55 (-1) t406 y414 t399 t400) = some (r1, r2, r3, r4) := by first | (rw [hy414]; with_reducible exact H) | (have H2_ := (Option.bind_some _ _).symm.trans H; rw [hy414]; with_reducible exact H2_) | (have H2_ := (Option.bind_some _ _).symm.trans H; with_reducible exact H2_) | with_reducible exact H | (rw [hy414]; exact H) | exact H
         have Ny414 := Aside0.mk hy414
         clear hy414
         have H' := Aside0.mk H
         clear H
         have hnb101 := NB393_394.out
         have hnc101 := NB394_393.out
         have hnb102 := NB393_395.out
         have hnc102 := NB395_393.out
         obtain ⟨hcz103_0, hcz103_1, hcz103_2, hfz103_0, hfz103_1, hfz103_2⟩ := zc8_3 (w := wc) BK393.out
         have hnb104 := NB394_395.out
         have hnc104 := NB395_394.out
         obtain ⟨hcz105_0, hcz105_1, hcz105_2, hcz105_3, hcz105_4, hfz105_0, hfz105_1, hfz105_2, hfz105_3, hfz105_4⟩ := zc8_5 (w := wc) BK394.out
         have p100 : 0 ≤ (a1_1 : Int) := zA8
         have q100 : (a1_1 : Int) < ((t396.length : Int) : Int) := zA8
         obtain ⟨go100, co100, eo100, gb100, gl100, cl100, HG100⟩ := Kd.R_form HO_394000.out (by omega)
         (first | cases eo100 | (injection eo100 with ea_ en_ ec_; (first | subst ea_ | (injection ea_ with ea_; subst ea_)); subst ec_; clear en_))
         have GB100 := Aside0.mk gb100
         have GG100 := Aside0.mk HG100
         clear gb100 gl100 HG100
         obtain ⟨hx100_0, hf100_0⟩ := Kd.R_celln 0 HO_394000.out (a1_1 : Int) p100 q100
         replace p100 := eq_true p100
         replace q100 := eq_true q100
         have HP106 := Kd.R_putg HO_394000.out (a1_1 : Int) a2
         go_wp2_with (first | ((with_reducible refine gate_store (t := 3) (p := 101) rfl ?_); refine store_event (t := 3) (p := 101) (v := ?vo_w107) (w1 := (wc.setCell ⟨go100, (a1_1 : Int).toNat, none⟩ (.int .i64 a2))) ?hg ?ho ?hn ?hr ?_; (case ho => rfl); (case hg => rfl); (case hn => rfl); (case hr => first | (go_simp; done) | (go_simp; rfl)); intro w107 hw; have hg : wc.grownBy w107 (some go100) := (by rw [hw]; exact HP106.2); have hp_ : Kd.R (Kd.int .i64) 3 w107 w.heap.size (fun _ => True) (.slice (some ⟨go100, 0, none⟩) t396.length co13) y414 := (by rw [hw, Ny414.out]; exact HP106.1); clear HP106; have n0_ := Aside0.mk (hp_); have n1_ := Aside0.mk (zg8 BK393.out hg (Kd.R_ne HO_394000.out BK393.out (by decide))); have n2_ := Aside0.mk (zg8 BK394.out hg (Kd.R_ne HO_394000.out BK394.out (by decide))); have n3_ := Aside0.mk (zg8 BK395.out hg (Kd.R_ne HO_394000.out BK395.out (by decide))); have n4_ := Aside0.mk ((by rw [hw]; exact below_set (HB.out) GB100.out : Below w.heap.size w w107)); clear HO_394000; clear BK393; clear BK394; clear BK395; clear HB; have HO_394000 := n0_; have BK393 := n1_; have BK394 := n2_; have BK395 := n3_; have HB := n4_; clear n0_ n1_ n2_ n3_ n4_; clear hg hw hp_))
         go_meet
         case rel => exact ⟨_, ((-1)), (t406), (y414), (t400), (.slice (some ⟨go100, 0, none⟩) t396.length co13), (by first | rfl | (simp; done) | (simp [*]; done)), (by first | rfl | (simp; done) | (simp [*]; done)), H', ⟨by have := HJ4.out; have := HJ38.out; have := HJ55.out; first | omega | exact Nat.le_refl _⟩, ⟨zR8 HO_394000.out⟩, ⟨zK8 BK393.out⟩, ⟨zK8 BK394.out⟩, ⟨zK8 BK395.out⟩, ⟨zB8_3⟩⟩
        rw [if_neg c97] at H
        have c97b0 : (x50_55 == 4) = false := beq_eq_false_iff_ne.mpr c97
        have c97b1 : (x50_55 != 4) = true := bne_iff_ne.mpr c97
        by_cases c108 : x50_55 = 5
        ·rw [if_pos c108] at H
         have c108b0 : (x50_55 == 5) = true := beq_iff_eq.mpr c108
         have c108b1 : (x50_55 != 5) = false := bne_eq_false_iff_eq.mpr c108
         clear c108
         have H' := Aside0.mk H
         clear H
         go_wp2
         go_meet
         case rel => exact ⟨_, ((rd t396 a1_3)), (t406), (t396), (t400), (.slice (some ad404) t396.length co13), (by first | rfl | (simp; done) | (simp [*]; done)), (by first | rfl | (simp; done) | (simp [*]; done)), H', ⟨by have := HJ4.out; have := HJ38.out; have := HJ55.out; first | omega | exact Nat.le_refl _⟩, ⟨zR8 HO_394000.out⟩, ⟨zK8 BK393.out⟩, ⟨zK8 BK394.out⟩, ⟨zK8 BK395.out⟩, ⟨zB8_3⟩⟩
        rw [if_neg c108] at H
        have c108b0 : (x50_55 == 5) = false := beq_eq_false_iff_ne.mpr c108
        have c108b1 : (x50_55 != 5) = true := bne_iff_ne.mpr c108
        by_cases c109 : x50_55 = 6
        ·rw [if_pos c109] at H
         have c109b0 : (x50_55 == 6) = true := beq_iff_eq.mpr c109
         have c109b1 : (x50_55 != 6) = false := bne_eq_false_iff_eq.mpr c109
         clear c109
         by_cases c110 : 0 ≤ a1_1
         rotate_left
         ·rw [if_neg c110] at H
          exact absurd H (by simp)
         rw [if_pos c110] at H
         have c110b0 : decide (0 ≤ a1_1) = true := decide_eq_true c110
         clear c110
         by_cases c111 : a1_1 < (t396.length : Int)
         rotate_left
         ·rw [if_neg c111] at H
          exact absurd H (by simp)
         rw [if_pos c111] at H
         have c111b0 : decide (a1_1 < (t396.length : Int)) = true := decide_eq_true c111
         clear c111
         obtain ⟨y415, hy415⟩ : ∃ y_ : List Int, y_ = (t396.set (a1_1 : Int).toNat a2) := ⟨_, rfl⟩
         replace H : ((impl_wrapped.f (wrap64 (a2 + (rd t396 a1_3)))).bind fun t416 => (impl_Work.j3 kj55 t416 t406 y415 t399 t400)) = some (r1, r2, r3, r4) := by first | (rw [hy415]; with_reducible exact H) | (have H2_ := (Option.bind_some _ _).symm.trans H; rw [hy415]; with_reducible exact H2_) | (have H2_ := (Option.bind_some _ _).symm.trans H; with_reducible exact H2_) | with_reducible exact H | (rw [hy415]; exact H) | exact H
         have Ny415 := Aside0.mk hy415
         clear hy415
         replace H := Option.bind_eq_some_iff.mp H
         obtain ⟨t416, A1130, H⟩ := H
         replace H : (impl_Work.j3 kj55 t416 t406 y415 t399 t400) = some (r1, r2, r3, r4) := H
         have A113 := Aside0.mk A1130
         clear A1130
         have H' := Aside0.mk H
         clear H
         have hnb114 := NB393_394.out
         have hnc114 := NB394_393.out
         have hnb115 := NB393_395.out
         have hnc115 := NB395_393.out
         obtain ⟨hcz116_0, hcz116_1, hcz116_2, hfz116_0, hfz116_1, hfz116_2⟩ := zc8_3 (w := wc) BK393.out
         have hnb117 := NB394_395.out
         have hnc117 := NB395_394.out
         obtain ⟨hcz118_0, hcz118_1, hcz118_2, hcz118_3, hcz118_4, hfz118_0, hfz118_1, hfz118_2, hfz118_3, hfz118_4⟩ := zc8_5 (w := wc) BK394.out
         have p112 : 0 ≤ (a1_1 : Int) := zA8
         have q112 : (a1_1 : Int) < ((t396.length : Int) : Int) := zA8
         obtain ⟨go112, co112, eo112, gb112, gl112, cl112, HG112⟩ := Kd.R_form HO_394000.out (by omega)
         (first | cases eo112 | (injection eo112 with ea_ en_ ec_; (first | subst ea_ | (injection ea_ with ea_; subst ea_)); subst ec_; clear en_))
         have GB112 := Aside0.mk gb112
         have GG112 := Aside0.mk HG112
         clear gb112 gl112 HG112
         obtain ⟨hx112_0, hf112_0⟩ := Kd.R_celln 0 HO_394000.out (a1_1 : Int) p112 q112
         replace p112 := eq_true p112
         replace q112 := eq_true q112
         have HP119 := Kd.R_putg HO_394000.out (a1_1 : Int) a2
         go_wp2_with (first | ((with_reducible refine gate_store (t := 3) (p := 112) rfl ?_); refine store_event (t := 3) (p := 112) (v := ?vo_w120) (w1 := (wc.setCell ⟨go112, (a1_1 : Int).toNat, none⟩ (.int .i64 a2))) ?hg ?ho ?hn ?hr ?_; (case ho => rfl); (case hg => rfl); (case hn => rfl); (case hr => first | (go_simp; done) | (go_simp; rfl)); intro w120 hw; have hg : wc.grownBy w120 (some go112) := (by rw [hw]; exact HP119.2); have hp_ : Kd.R (Kd.int .i64) 3 w120 w.heap.size (fun _ => True) (.slice (some ⟨go112, 0, none⟩) t396.length co13) y415 := (by rw [hw, Ny415.out]; exact HP119.1); clear HP119; have n0_ := Aside0.mk (hp_); have n1_ := Aside0.mk (zg8 BK393.out hg (Kd.R_ne HO_394000.out BK393.out (by decide))); have n2_ := Aside0.mk (zg8 BK394.out hg (Kd.R_ne HO_394000.out BK394.out (by decide))); have n3_ := Aside0.mk (zg8 BK395.out hg (Kd.R_ne HO_394000.out BK395.out (by decide))); have n4_ := Aside0.mk ((by rw [hw]; exact below_set (HB.out) GB112.out : Below w.heap.size w w120)); clear HO_394000; clear BK393; clear BK394; clear BK395; clear HB; have HO_394000 := n0_; have BK393 := n1_; have BK394 := n2_; have BK395 := n3_; have HB := n4_; clear n0_ n1_ n2_ n3_ n4_; clear hg hw hp_) | ((with_reducible refine gate_callee (f := 66) rfl ?_); refine goesL_ (some 116) rfl rfl Try.func66 (by kernel_rfl) rfl #[.int .i64 (wrap64 (a2 + (rd t396 a1_3)))] rfl zT8 ?_; (with_reducible refine (impl_wrapped.calls (wrap64 (a2 + (rd t396 a1_3))) t416 _ A113.out).mono ?_); rintro e w' ⟨rfl, ⟨nd, rfl⟩⟩; refine ⟨_, rfl, ?_⟩))
         go_meet
         case rel => exact ⟨_, (t416), (t406), (y415), (t400), (.slice (some ⟨go112, 0, none⟩) t396.length co13), (by first | rfl | (simp; done) | (simp [*]; done)), (by first | rfl | (simp; done) | (simp [*]; done)), H', ⟨by have := HJ4.out; have := HJ38.out; have := HJ55.out; first | omega | exact Nat.le_refl _⟩, ⟨zR8 HO_394000.out⟩, ⟨zK8 BK393.out⟩, ⟨zK8 BK394.out⟩, ⟨zK8 BK395.out⟩, ⟨zB8_3⟩⟩
        rw [if_neg c109] at H
        have c109b0 : (x50_55 == 6) = false := beq_eq_false_iff_ne.mpr c109
        have c109b1 : (x50_55 != 6) = true := bne_iff_ne.mpr c109
        by_cases c121 : x50_55 = 7
        ·rw [if_pos c121] at H
         have c121b0 : (x50_55 == 7) = true := beq_iff_eq.mpr c121
         have c121b1 : (x50_55 != 7) = false := bne_eq_false_iff_eq.mpr c121
         clear c121
         by_cases c122 : (rd t396 a1_2) = 0
         rotate_left
         ·rw [if_neg c122] at H
          have c122b0 : ((rd t396 a1_2) == 0) = false := beq_eq_false_iff_ne.mpr c122
          have c122b1 : ((rd t396 a1_2) != 0) = true := bne_iff_ne.mpr c122
          have H' := Aside0.mk H
          clear H
          go_wp2
          go_meet
          case rel => exact ⟨_, ((-1)), (t406), (t396), (t400), (.slice (some ad404) t396.length co13), (by first | rfl | (simp; done) | (simp [*]; done)), (by first | rfl | (simp; done) | (simp [*]; done)), H', ⟨by have := HJ4.out; have := HJ38.out; have := HJ55.out; first | omega | exact Nat.le_refl _⟩, ⟨zR8 HO_394000.out⟩, ⟨zK8 BK393.out⟩, ⟨zK8 BK394.out⟩, ⟨zK8 BK395.out⟩, ⟨zB8_3⟩⟩
         rw [if_pos c122] at H
         have c122b0 : ((rd t396 a1_2) == 0) = true := beq_iff_eq.mpr c122
         have c122b1 : ((rd t396 a1_2) != 0) = false := bne_eq_false_iff_eq.mpr c122
         clear c122
         replace H := Option.bind_eq_some_iff.mp H
         obtain ⟨t417, A1230, H⟩ := H
         replace H : (impl_Work.j3 kj55 (-1) t417 t396 t399 t400) = some (r1, r2, r3, r4) := H
         have A123 := Aside0.mk A1230
         clear A1230
         have H' := Aside0.mk H
         clear H
         have hnb124 := NB394_393.out
         have hnc124 := NB393_394.out
         have hnb125 := NB394_395.out
         have hnc125 := NB395_394.out
         obtain ⟨hcz126_0, hcz126_1, hcz126_2, hcz126_3, hcz126_4, hfz126_0, hfz126_1, hfz126_2, hfz126_3, hfz126_4⟩ := zc8_5 (w := wc) BK394.out
         go_wp2_with (first | ((with_reducible refine gate_callee (f := 17) rfl ?_); refine goesL_ (some 123) rfl rfl Try.func17 (by kernel_rfl) rfl #[.int .i64 a1_4] rfl zT8 ?_; (with_reducible refine (impl_address.calls a1_4 t417 _ A123.out).mono ?_); rintro e w' ⟨rfl, ⟨nd, rfl⟩⟩; refine ⟨_, rfl, ?_⟩))
         go_meet
         case rel => exact ⟨_, ((-1)), (t417), (t396), (t400), (.slice (some ad404) t396.length co13), (by first | rfl | (simp; done) | (simp [*]; done)), (by first | rfl | (simp; done) | (simp [*]; done)), H', ⟨by have := HJ4.out; have := HJ38.out; have := HJ55.out; first | omega | exact Nat.le_refl _⟩, ⟨zR8 HO_394000.out⟩, ⟨zK8 BK393.out⟩, ⟨zK8 BK394.out⟩, ⟨zK8 BK395.out⟩, ⟨zB8_3⟩⟩
        rw [if_neg c121] at H
        have c121b0 : (x50_55 == 7) = false := beq_eq_false_iff_ne.mpr c121
        have c121b1 : (x50_55 != 7) = true := bne_iff_ne.mpr c121
        by_cases c127 : x50_55 = 8
        ·rw [if_pos c127] at H
         have c127b0 : (x50_55 == 8) = true := beq_iff_eq.mpr c127
         have c127b1 : (x50_55 != 8) = false := bne_eq_false_iff_eq.mpr c127
         clear c127
         replace H := Option.bind_eq_some_iff.mp H
         obtain ⟨t418, A1280, H⟩ := H
         replace H : (impl_Work.j3 kj55 (-1) t418 t396 t399 t400) = some (r1, r2, r3, r4) := H
         have A128 := Aside0.mk A1280
         clear A1280
         have H' := Aside0.mk H
         clear H
         have hnb129 := NB394_393.out
         have hnc129 := NB393_394.out
         have hnb130 := NB394_395.out
         have hnc130 := NB395_394.out
         obtain ⟨hcz131_0, hcz131_1, hcz131_2, hcz131_3, hcz131_4, hfz131_0, hfz131_1, hfz131_2, hfz131_3, hfz131_4⟩ := zc8_5 (w := wc) BK394.out
         go_wp2_with (first | ((with_reducible refine gate_callee (f := 17) rfl ?_); refine goesL_ (some 128) rfl rfl Try.func17 (by kernel_rfl) rfl #[.int .i64 a1_4] rfl zT8 ?_; (with_reducible refine (impl_address.calls a1_4 t418 _ A128.out).mono ?_); rintro e w' ⟨rfl, ⟨nd, rfl⟩⟩; refine ⟨_, rfl, ?_⟩))
         go_meet
         case rel => exact ⟨_, ((-1)), (t418), (t396), (t400), (.slice (some ad404) t396.length co13), (by first | rfl | (simp; done) | (simp [*]; done)), (by first | rfl | (simp; done) | (simp [*]; done)), H', ⟨by have := HJ4.out; have := HJ38.out; have := HJ55.out; first | omega | exact Nat.le_refl _⟩, ⟨zR8 HO_394000.out⟩, ⟨zK8 BK393.out⟩, ⟨zK8 BK394.out⟩, ⟨zK8 BK395.out⟩, ⟨zB8_3⟩⟩
        rw [if_neg c127] at H
        have c127b0 : (x50_55 == 8) = false := beq_eq_false_iff_ne.mpr c127
        have c127b1 : (x50_55 != 8) = true := bne_iff_ne.mpr c127
        by_cases c132 : x50_55 = 9
        rotate_left
        ·rw [if_neg c132] at H
         have c132b0 : (x50_55 == 9) = false := beq_eq_false_iff_ne.mpr c132
         have c132b1 : (x50_55 != 9) = true := bne_iff_ne.mpr c132
         have H' := Aside0.mk H
         clear H
         go_wp2
         go_meet
         case rel => exact ⟨_, ((-1)), (t406), (t396), (t400), (.slice (some ad404) t396.length co13), (by first | rfl | (simp; done) | (simp [*]; done)), (by first | rfl | (simp; done) | (simp [*]; done)), H', ⟨by have := HJ4.out; have := HJ38.out; have := HJ55.out; first | omega | exact Nat.le_refl _⟩, ⟨zR8 HO_394000.out⟩, ⟨zK8 BK393.out⟩, ⟨zK8 BK394.out⟩, ⟨zK8 BK395.out⟩, ⟨zB8_3⟩⟩
        rw [if_pos c132] at H
        have c132b0 : (x50_55 == 9) = true := beq_iff_eq.mpr c132
        have c132b1 : (x50_55 != 9) = false := bne_eq_false_iff_eq.mpr c132
        clear c132
        have H' := Aside0.mk H
        clear H
        have hnb133 := NB393_394.out
        have hnc133 := NB394_393.out
        have hnb134 := NB393_395.out
        have hnc134 := NB395_393.out
        obtain ⟨hcz135_0, hcz135_1, hcz135_2, hfz135_0, hfz135_1, hfz135_2⟩ := zc8_3 (w := wc) BK393.out
        go_wp2
        go_meet
        case rel => exact ⟨_, ((-1)), (t399), (t396), (1), (.slice (some ad404) t396.length co13), (by first | rfl | (simp; done) | (simp [*]; done)), (by first | rfl | (simp; done) | (simp [*]; done)), H', ⟨by have := HJ4.out; have := HJ38.out; have := HJ55.out; first | omega | exact Nat.le_refl _⟩, ⟨by (with_reducible repeat (first | apply Kd.R_alloc | apply Kd.R_drewN | apply Kd.R_drew)); exact Kd.R_mono (Kd.R_far (p := ⟨gb393, 2, none⟩) (Kd.R_types HO_394000.out BK393.out (by decide)) (fun _ hk => hk.2) (.int .i64 1)) (fun _ hk => trivial)⟩, ⟨by refine zP8 ?_; refine blk_put (cs := #[.slice (some ad404) t396.length co13, .int .i64 t399, .int .i64 t400]) ?_ 2 _ rfl; refine zP8 ?_; exact BK393.out⟩, ⟨by refine zP8 ?_; refine blk_far ?_ NB394_393.out _; refine zP8 ?_; exact BK394.out⟩, ⟨by refine zP8 ?_; refine blk_far ?_ NB395_393.out _; refine zP8 ?_; exact BK395.out⟩, ⟨zB8_3⟩⟩
       case rest =>
        clear HC64
        try clear c1
        try clear p1
        try clear q1
        try clear hx1
        try clear p2
        try clear c6
        try clear p6
        try clear c7
        try clear c8
        try clear p8
        try clear q8
        try clear hx8
        try clear hf8
        try clear c9
        try clear p9
        try clear q9
        try clear hx9
        try clear hf9
        try clear c10
        try clear p10
        try clear q10
        try clear hx10
        try clear hf10
        try clear c11
        try clear p11
        try clear q11
        try clear hx11
        try clear hf11
        try clear c12
        try clear c13
        try clear c17
        try clear p64
        try clear c66
        try clear c76
        try clear c76b0
        try clear c76b1
        try clear c78
        try clear c79
        try clear p80
        try clear q80
        try clear c83
        try clear c83b0
        try clear c83b1
        try clear c85
        try clear c85b0
        try clear c86
        try clear c86b0
        try clear p87
        try clear q87
        try clear hx87
        try clear hf87
        try clear c90
        try clear c90b0
        try clear c90b1
        try clear c92
        try clear c92b0
        try clear c93
        try clear c93b0
        try clear p94
        try clear q94
        try clear hx94
        try clear hf94
        try clear c97
        try clear c97b0
        try clear c97b1
        try clear c98
        try clear c98b0
        try clear c99
        try clear c99b0
        try clear p100
        try clear q100
        try clear hx100
        try clear hf100
        try clear c101
        try clear c102
        try clear c104
        try clear c108
        try clear c108b0
        try clear c108b1
        try clear c109
        try clear c109b0
        try clear c109b1
        try clear c110
        try clear c110b0
        try clear c111
        try clear c111b0
        try clear p112
        try clear q112
        try clear hx112
        try clear hf112
        try clear c114
        try clear c115
        try clear c117
        try clear c121
        try clear c121b0
        try clear c121b1
        try clear c122
        try clear c122b0
        try clear c122b1
        try clear c124
        try clear c125
        try clear c127
        try clear c127b0
        try clear c127b1
        try clear c129
        try clear c130
        try clear c132
        try clear c132b0
        try clear c132b1
        try clear c133
        try clear c134
        try clear hcz103_0
        try clear hcz103_1
        try clear hcz103_2
        try clear hcz105_0
        try clear hcz105_1
        try clear hcz105_2
        try clear hcz105_3
        try clear hcz105_4
        try clear hcz116_0
        try clear hcz116_1
        try clear hcz116_2
        try clear hcz118_0
        try clear hcz118_1
        try clear hcz118_2
        try clear hcz118_3
        try clear hcz118_4
        try clear hcz126_0
        try clear hcz126_1
        try clear hcz126_2
        try clear hcz126_3
        try clear hcz126_4
        try clear hcz131_0
        try clear hcz131_1
        try clear hcz131_2
        try clear hcz131_3
        try clear hcz131_4
        try clear hcz135_0
        try clear hcz135_1
        try clear hcz135_2
        try clear hfz103_0
        try clear hfz103_1
        try clear hfz103_2
        try clear hfz105_0
        try clear hfz105_1
        try clear hfz105_2
        try clear hfz105_3
        try clear hfz105_4
        try clear hfz116_0
        try clear hfz116_1
        try clear hfz116_2
        try clear hfz118_0
        try clear hfz118_1
        try clear hfz118_2
        try clear hfz118_3
        try clear hfz118_4
        try clear hfz126_0
        try clear hfz126_1
        try clear hfz126_2
        try clear hfz126_3
        try clear hfz126_4
        try clear hfz131_0
        try clear hfz131_1
        try clear hfz131_2
        try clear hfz131_3
        try clear hfz131_4
        try clear hfz135_0
        try clear hfz135_1
        try clear hfz135_2
        try clear hx100_0
        try clear hx112_0
        try clear hx87_0
        try clear hx94_0
        try clear p100
        try clear p112
        try clear p80
        try clear p87
        try clear p94
        try clear q100
        try clear q112
        try clear q80
        try clear q87
        try clear q94
        obtain ⟨kq, x10_63, x11_63, x394000_63, x394002_63, u394000, rfl, rfl, HA, HJ63, HO_394000, BK393, BK394, BK395, HB⟩ := hcut
        cases kq with
        | zero => exact absurd HA.out (by simp [impl_Work.j3])
        | succ kj63 =>
         have H := HA.out
         clear HA
         simp only [impl_Work.j3] at H
         simp only [Option.some.injEq, Prod.mk.injEq] at H
         obtain ⟨rfl, rfl, rfl, rfl⟩ := H
         have hnb136 := NB393_394.out
         have hnc136 := NB394_393.out
         have hnb137 := NB393_395.out
         have hnc137 := NB395_393.out
         obtain ⟨hcz138_0, hcz138_1, hcz138_2, hfz138_0, hfz138_1, hfz138_2⟩ := zc8_3 (w := wc) BK393.out
         obtain ⟨Ao139, co139, eo139⟩ := Kd.R_slice HO_394000.out
         subst eo139
         have hnb140 := NB395_394.out
         have hnc140 := NB394_395.out
         obtain ⟨hcz141_0, hcz141_1, hcz141_2, hfz141_0, hfz141_1, hfz141_2⟩ := zc8_3 (w := wc) BK395.out
         go_wp2
         refine bodyPost_ret (results_ct rfl _ _ gb395 29 #[.slice Ao139 x394000_63.length co139, .int .i64 x11_63, .int .i64 x394002_63] (0, 0) _ rfl (by refine zP8 ?_; refine blk_put (cs := #[.slice Ao139 x394000_63.length co139, .int .i64 x11_63, .int .i64 0]) ?_ 2 _ rfl; refine zP8 ?_; refine blk_put (cs := #[.slice Ao139 x394000_63.length co139, .int .i64 0, .int .i64 0]) ?_ 1 _ rfl; refine zP8 ?_; refine blk_put (cs := #[.slice none 0 0, .int .i64 0, .int .i64 0]) ?_ 0 _ rfl; refine zP8 ?_; refine blk_far ?_ NB395_393.out _; refine zP8 ?_; exact BK395.out) Try.underlying29 rfl (by kernel_rfl)) rfl ?_
         exact ⟨_, zE8, by (with_reducible repeat (first | apply Kd.R_alloc | apply Kd.R_drewN | apply Kd.R_drew)); exact Kd.R_mono (Kd.R_far (p := ⟨gb395, 2, none⟩) (Kd.R_far (p := ⟨gb395, 1, none⟩) (Kd.R_far (p := ⟨gb395, 0, none⟩) (Kd.R_far (p := ⟨gb393, 1, none⟩) (Kd.R_types (Kd.R_types HO_394000.out BK393.out (by decide)) BK395.out (by decide)) (fun _ hk => hk.1.2) (.int .i64 x11_63)) (fun _ hk => hk.2) (.slice Ao139 x394000_63.length co139)) (fun _ hk => hk.2) (.int .i64 x11_63)) (fun _ hk => hk.2) (.int .i64 x394002_63)) (fun _ hk => trivial), zB8_3⟩

end Go.Proofs.Ytmfhfnpinmlloaa.PFnGoes
