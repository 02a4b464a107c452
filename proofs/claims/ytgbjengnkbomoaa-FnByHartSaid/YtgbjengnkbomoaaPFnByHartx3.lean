-- made by wip/tools/myprint.py out of the seat's translation
import Derived.Test.YtgbjengnkbomoaaPFnByHartx0
import Derived.Test.YtgbjengnkbomoaaPFnByHartx2
namespace Go.Proofs.Ytgbjengnkbomoaa.PFnByHart
open Go.RowKit Go.Proofs.YtgbjengnkbomoaaW.PrintWords Go.Proofs.YtgbjengnkbomoaaW.PrintLast Go.Proofs.YtgbjengnkbomoaaW.PrintMore
attribute [local go_sem] max2_int min2_int max_two min_two max_three min_three max_four min_four   -- for this text's walks alone
set_option linter.unusedVariables false
set_option linter.unusedSimpArgs false
theorem zc3_3 {w : World} {g : Nat} {a0 a1 a2 : Value} {t : TypeId} (h : w.heap[g]? = some (.cells #[a0, a1, a2] t (0, 0))) : w.cell? ⟨g, 0, none⟩ = some a0 ∧ w.cell? ⟨g, 1, none⟩ = some a1 ∧ w.cell? ⟨g, 2, none⟩ = some a2 ∧ w.frozen? ⟨g, 0, none⟩ = false ∧ w.frozen? ⟨g, 1, none⟩ = false ∧ w.frozen? ⟨g, 2, none⟩ = false := ⟨(blk_cell h 0).trans rfl, (blk_cell h 1).trans rfl, (blk_cell h 2).trans rfl, blk_frozen h 0, blk_frozen h 1, blk_frozen h 2⟩
theorem zc3_5 {w : World} {g : Nat} {a0 a1 a2 a3 a4 : Value} {t : TypeId} (h : w.heap[g]? = some (.cells #[a0, a1, a2, a3, a4] t (0, 0))) : w.cell? ⟨g, 0, none⟩ = some a0 ∧ w.cell? ⟨g, 1, none⟩ = some a1 ∧ w.cell? ⟨g, 2, none⟩ = some a2 ∧ w.cell? ⟨g, 3, none⟩ = some a3 ∧ w.cell? ⟨g, 4, none⟩ = some a4 ∧ w.frozen? ⟨g, 0, none⟩ = false ∧ w.frozen? ⟨g, 1, none⟩ = false ∧ w.frozen? ⟨g, 2, none⟩ = false ∧ w.frozen? ⟨g, 3, none⟩ = false ∧ w.frozen? ⟨g, 4, none⟩ = false := ⟨(blk_cell h 0).trans rfl, (blk_cell h 1).trans rfl, (blk_cell h 2).trans rfl, (blk_cell h 3).trans rfl, (blk_cell h 4).trans rfl, blk_frozen h 0, blk_frozen h 1, blk_frozen h 2, blk_frozen h 3, blk_frozen h 4⟩
abbrev zq3_0 : Array Bool := #[false, false, false, false, false, false, false, false, false, false]
abbrev zq3_1 : Array Bool := #[true, false, false, false, false, false, false, false, false, false]
abbrev zq3_2 : Array Bool := #[true, false, true, false, false, false, false, false, false, false]
abbrev zq3_3 : Array Bool := #[true, false, true, false, true, false, false, false, false, false]
abbrev zq3_4 : Array Bool := #[true, false, true, false, true, true, false, false, false, false]
abbrev zq3_5 : Array Bool := #[true, false, true, false, true, true, true, false, false, false]
abbrev zq3_6 : Array Bool := #[true, true, true, false, true, true, true, false, false, false]
abbrev zq3_7 : Array Bool := #[true, true, true, true, true, true, true, false, false, false]
abbrev zq3_8 : Array Bool := #[true, true, true, true, true, true, true, true, false, false]
abbrev zq3_9 : Array Bool := #[true, true, true, true, true, true, true, true, true, false]
abbrev zq3_10 : Array Bool := #[true, true, true, true, true, true, true, true, true, true]
theorem zR3 {p q : Prop} (x : q) (h : q → p := by intro h; (with_reducible repeat (first | apply Kd.R_alloc | apply Kd.R_drewN | apply Kd.R_drew)); exact h) : p := h x
theorem zK3 {p q : Prop} (x : q) (h : q → p := by intro h; (with_reducible repeat (first | refine blk_drewN ?_ _ | refine blk_drew ?_ | refine blk_alloc ?_ _)); exact h) : p := h x
theorem zA3 {p : Prop} [Decidable p] (h : decide p = true := by first | (with_reducible assumption) | assumption) : p := of_decide_eq_true h
theorem zT3 {p : Prop} (h : p := by (try simp only [List.map_toArray, List.map_cons, List.map_nil]); first | done | rfl | (simp only [List.length_drop, List.length_take]; rfl)) : p := h
theorem zC3 {p q : Prop} (x : q) (h : q → p := by intro h; repeat (first | exact h | (with_reducible refine Kd.C_alloc ?_ _) | (with_reducible refine Kd.C_drewN ?_ _) | (with_reducible refine Kd.C_drew ?_))) : p := h x
theorem zb3 {W w w1 : World} {g : Nat} {o : Obj} (x : W.heap[g]? = some o) (hb : Below w.heap.size w w1) (h : W.heap[g]? = some o → w.heap[g]? = some o := by intro h; (with_reducible repeat (first | refine blk_drewN ?_ _ | refine blk_drew ?_ | refine blk_alloc ?_ _)); exact h) : w1.heap[g]? = some o := blk_below (h x) hb
theorem zg3 {W w w1 : World} {g : Nat} {o : Obj} {row : Option Nat} (x : W.heap[g]? = some o) (hg : w.grownBy w1 row) (hne : some g ≠ row) (h : W.heap[g]? = some o → w.heap[g]? = some o := by intro h; (with_reducible repeat (first | refine blk_drewN ?_ _ | refine blk_drew ?_ | refine blk_alloc ?_ _)); exact h) : w1.heap[g]? = some o := blk_grown (h x) hg hne
theorem zn3 {W w : World} {g g' : Nat} {o : Obj} (x : W.heap[g]? = some o) (hg : g' = w.heap.size) (h : W.heap[g]? = some o → w.heap[g]? = some o := by intro h; (with_reducible repeat (first | refine blk_drewN ?_ _ | refine blk_drew ?_ | refine blk_alloc ?_ _)); exact h) : g ≠ g' := by rw [hg]; exact Nat.ne_of_lt (blk_lt (h x))
theorem zm3 {W w : World} {g g' : Nat} {o : Obj} (x : W.heap[g]? = some o) (hg : g' = w.heap.size) (h : W.heap[g]? = some o → w.heap[g]? = some o := by intro h; (with_reducible repeat (first | refine blk_drewN ?_ _ | refine blk_drew ?_ | refine blk_alloc ?_ _)); exact h) : g' ≠ g := by rw [hg]; exact Nat.ne_of_gt (blk_lt (h x))
theorem zP3 {p q : Prop} (x : q) (h : q → p := by intro h; (with_reducible repeat (first | refine blk_drewN ?_ _ | refine blk_drew ?_ | refine blk_alloc ?_ _)); exact h) : p := h x
theorem zV3 {a b : Act} (h : a = b := by simp only [Act.put, List.setIfInBounds_toArray, List.set_cons_zero, List.set_cons_succ, i64_w, i32_w]; rfl) : a = b := h
theorem zE3 {p : Prop} (h : p := by first | rfl | (simp [errW_none, errW_some] <;> rfl) | (simp [*, errW_none, errW_some] <;> rfl)) : p := h
theorem zB3_0 {p : Prop} (h : p := by repeat (first | (with_reducible first | exact HB.out | apply below_alloc | apply pw_below_drewN | apply below_drew1) | exact HB.out)) : p := h
theorem zB3_1 {p : Prop} (h : p := by repeat (first | (with_reducible first | exact HB.out | apply below_alloc | apply pw_below_drewN | apply below_drew1 | refine below_set ?_ GE140.out) | exact HB.out)) : p := h
theorem zB3_2 {p : Prop} (h : p := by repeat (first | (with_reducible first | exact HB.out | apply below_alloc | apply pw_below_drewN | apply below_drew1 | refine below_set ?_ GE140.out | refine below_set ?_ GE141.out) | exact HB.out)) : p := h
theorem zB3_3 {p : Prop} (h : p := by repeat (first | (with_reducible first | exact HB.out | apply below_alloc | apply pw_below_drewN | apply below_drew1 | refine below_set ?_ GE140.out | refine below_set ?_ GE141.out | refine below_set ?_ GE142.out) | exact HB.out)) : p := h
theorem zB3_4 {p : Prop} (h : p := by repeat (first | (with_reducible first | exact HB.out | apply below_alloc | apply pw_below_drewN | apply below_drew1 | refine below_set ?_ GE140.out | refine below_set ?_ GE141.out | refine below_set ?_ GE142.out | refine below_set ?_ GE148.out) | exact HB.out)) : p := h
theorem zB3_5 {p : Prop} (h : p := by repeat (first | (with_reducible first | exact HB.out | apply below_alloc | apply pw_below_drewN | apply below_drew1 | refine below_set ?_ GB89.out | refine below_set ?_ GE140.out | refine below_set ?_ GE141.out | refine below_set ?_ GE142.out | refine below_set ?_ GE148.out) | exact HB.out)) : p := h
theorem zB3_6 {p : Prop} (h : p := by repeat (first | (with_reducible first | exact HB.out | apply below_alloc | apply pw_below_drewN | apply below_drew1 | refine below_set ?_ GB96.out | refine below_set ?_ GE140.out | refine below_set ?_ GE141.out | refine below_set ?_ GE142.out | refine below_set ?_ GE148.out) | exact HB.out)) : p := h
theorem zB3_7 {p : Prop} (h : p := by repeat (first | (with_reducible first | exact HB.out | apply below_alloc | apply pw_below_drewN | apply below_drew1 | refine below_set ?_ GB103.out | refine below_set ?_ GE140.out | refine below_set ?_ GE141.out | refine below_set ?_ GE142.out | refine below_set ?_ GE148.out) | exact HB.out)) : p := h

/-! ### spec_Work: function 79 -/
mutual
def spec_Work.j0 : Nat → Int → Bool → List Int → Int → Int → Int → Int → Int → Int → Int → List Int → Int → Int → Option (List Int × Int × Int × Int)
 | 0, _, _, _, _, _, _, _, _, _, _, _, _, _ => none
 | k + 1, x2, x26, x141000, x141001, x141002, x142000, x142001, x142002, x142003, x142004, x149000, x149001, x149002 => if x26 = true then (some (x149000, x149001, x149002, (-1))) else ((spec_l9Address.f (wrap64 (x141001 + 1))).bind fun t151 => ((spec_InsOk.f x142000 x142001 x142002 x142003 x142004).bind fun t152 => (if t152 = true then (if 0 ≤ x142002 then (if x142002 < (x141000.length : Int) then (if 0 ≤ x142003 then (if x142003 < (x141000.length : Int) then (spec_Work.j1 k x2 (-1) (rd x141000 x142002) (rd x141000 x142003) x142000 x141000 x141001 x141002 x142000 x142001 x142002 x142003 x142004 x149000 t151 x149002) else (none)) else (none)) else (none)) else (none)) else (some (x149000, x141001, 2, (-1))))))
def spec_Work.j1 : Nat → Int → Int → Int → Int → Int → List Int → Int → Int → Int → Int → Int → Int → Int → List Int → Int → Int → Option (List Int × Int × Int × Int)
 | 0, _, _, _, _, _, _, _, _, _, _, _, _, _, _, _, _ => none
 | k + 1, x2, x9, x10, x11, x54, x141000, x141001, x141002, x142000, x142001, x142002, x142003, x142004, x149000, x149001, x149002 => if x54 = 1 then (if 0 ≤ x142001 then (if x142001 < (x149000.length : Int) then (spec_Work.j2 k x9 (x149000.set (x142001 : Int).toNat x142004) x149001 x149002) else (none)) else (none)) else (if x54 = 2 then ((spec_l9Word.f (wrap64 (x10 + x11))).bind fun t156 => (if 0 ≤ x142001 then (if x142001 < (x149000.length : Int) then (spec_Work.j2 k x9 (x149000.set (x142001 : Int).toNat t156) x149001 x149002) else (none)) else (none))) else (if x54 = 10 then ((spec_l9Word.f (wrap64 (x10 - x11))).bind fun t158 => (if 0 ≤ x142001 then (if x142001 < (x149000.length : Int) then (spec_Work.j2 k x9 (x149000.set (x142001 : Int).toNat t158) x149001 x149002) else (none)) else (none))) else (if x54 = 3 then ((spec_l9Word.f (wrap64 (x10 + x142004))).bind fun t160 => (if 0 ≤ x142001 then (if x142001 < (x149000.length : Int) then (spec_Work.j2 k x9 (x149000.set (x142001 : Int).toNat t160) x149001 x149002) else (none)) else (none))) else (if x54 = 4 then (if 0 ≤ x142001 then (if x142001 < (x149000.length : Int) then (spec_Work.j2 k x9 (x149000.set (x142001 : Int).toNat x2) x149001 x149002) else (none)) else (none)) else (if x54 = 5 then (spec_Work.j2 k x11 x149000 x149001 x149002) else (if x54 = 6 then (if 0 ≤ x142001 then (if x142001 < (x149000.length : Int) then ((spec_l9Word.f (wrap64 (x2 + x11))).bind fun t164 => (spec_Work.j2 k t164 (x149000.set (x142001 : Int).toNat x2) x149001 x149002)) else (none)) else (none)) else (if x54 = 7 then (if x10 = 0 then ((spec_l9Address.f x142004).bind fun t165 => (spec_Work.j2 k x9 x149000 t165 x149002)) else (spec_Work.j2 k x9 x149000 x149001 x149002)) else (if x54 = 8 then ((spec_l9Address.f x142004).bind fun t166 => (spec_Work.j2 k x9 x149000 t166 x149002)) else (if x54 = 9 then (spec_Work.j2 k x9 x149000 x141001 1) else (spec_Work.j2 k x9 x149000 x149001 x149002))))))))))
def spec_Work.j2 : Nat → Int → List Int → Int → Int → Option (List Int × Int × Int × Int)
 | 0, _, _, _, _ => none
 | k + 1, x9, x149000, x149001, x149002 => some (x149000, x149001, x149002, x9)
end
def spec_Work.f (k : Nat) (l0_0 : List Int) (a0_1 : Int) (a0_2 : Int) (a1_0 : Int) (a1_1 : Int) (a1_2 : Int) (a1_3 : Int) (a1_4 : Int) (a2 : Int) : Option (List Int × Int × Int × Int) := (spec_l9Copy.f l0_0 a0_1 a0_2).bind fun bt143 => ((spec_HartOk.f k l0_0 a0_1 a0_2).bind fun t149 => (if t149 = true then (if a0_2 = 0 then ((spec_l1In.f a2 0 65535).bind fun t150 => (spec_Work.j0 k a2 (!t150) l0_0 a0_1 a0_2 a1_0 a1_1 a1_2 a1_3 a1_4 bt143.1 bt143.2.1 bt143.2.2)) else (spec_Work.j0 k a2 true l0_0 a0_1 a0_2 a1_0 a1_1 a1_2 a1_3 a1_4 bt143.1 bt143.2.1 bt143.2.2)) else (spec_Work.j0 k a2 true l0_0 a0_1 a0_2 a1_0 a1_1 a1_2 a1_3 a1_4 bt143.1 bt143.2.1 bt143.2.2)))
theorem spec_Work.mono_l : ∀ k, (∀ y0 y1 y2 y3 y4 y5 y6 y7 y8 y9 y10 y11 y12, LeO (spec_Work.j0 k y0 y1 y2 y3 y4 y5 y6 y7 y8 y9 y10 y11 y12) (spec_Work.j0 (k + 1) y0 y1 y2 y3 y4 y5 y6 y7 y8 y9 y10 y11 y12)) ∧ (∀ y0 y1 y2 y3 y4 y5 y6 y7 y8 y9 y10 y11 y12 y13 y14 y15, LeO (spec_Work.j1 k y0 y1 y2 y3 y4 y5 y6 y7 y8 y9 y10 y11 y12 y13 y14 y15) (spec_Work.j1 (k + 1) y0 y1 y2 y3 y4 y5 y6 y7 y8 y9 y10 y11 y12 y13 y14 y15)) ∧ (∀ y0 y1 y2 y3, LeO (spec_Work.j2 k y0 y1 y2 y3) (spec_Work.j2 (k + 1) y0 y1 y2 y3))
 | 0 => ⟨fun _ _ _ _ _ _ _ _ _ _ _ _ _ r h => by simp [spec_Work.j0] at h, fun _ _ _ _ _ _ _ _ _ _ _ _ _ _ _ _ r h => by simp [spec_Work.j1] at h, fun _ _ _ _ r h => by simp [spec_Work.j2] at h⟩
 | k + 1 => by
  obtain ⟨ih0, ih1, ih2⟩ := spec_Work.mono_l k
  refine ⟨?_, ?_, ?_⟩
  ·intro y0 y1 y2 y3 y4 y5 y6 y7 y8 y9 y10 y11 y12
   unfold spec_Work.j0
   repeat' first
   | (with_reducible exact ih0 _ _ _ _ _ _ _ _ _ _ _ _ _)
   | (with_reducible exact ih1 _ _ _ _ _ _ _ _ _ _ _ _ _ _ _ _)
   | (with_reducible exact ih2 _ _ _ _)
   | (with_reducible exact spec_HartOk.mono _ _ _ _)
   | (with_reducible exact LeO.refl _)
   | (with_reducible exact LeO.none _)
   | (with_reducible refine LeO.ite ?_ ?_)
   | (with_reducible refine LeO.bind ?_ (fun _ => ?_))
   | exact ih0 _ _ _ _ _ _ _ _ _ _ _ _ _
   | exact ih1 _ _ _ _ _ _ _ _ _ _ _ _ _ _ _ _
   | exact ih2 _ _ _ _
   | exact spec_HartOk.mono _ _ _ _
   | exact LeO.none _
   | refine LeO.ite ?_ ?_
   | refine LeO.bind ?_ (fun _ => ?_)
  ·intro y0 y1 y2 y3 y4 y5 y6 y7 y8 y9 y10 y11 y12 y13 y14 y15
   unfold spec_Work.j1
   repeat' first
   | (with_reducible exact ih0 _ _ _ _ _ _ _ _ _ _ _ _ _)
   | (with_reducible exact ih1 _ _ _ _ _ _ _ _ _ _ _ _ _ _ _ _)
   | (with_reducible exact ih2 _ _ _ _)
   | (with_reducible exact spec_HartOk.mono _ _ _ _)
   | (with_reducible exact LeO.refl _)
   | (with_reducible exact LeO.none _)
   | (with_reducible refine LeO.ite ?_ ?_)
   | (with_reducible refine LeO.bind ?_ (fun _ => ?_))
   | exact ih0 _ _ _ _ _ _ _ _ _ _ _ _ _
   | exact ih1 _ _ _ _ _ _ _ _ _ _ _ _ _ _ _ _
   | exact ih2 _ _ _ _
   | exact spec_HartOk.mono _ _ _ _
   | exact LeO.none _
   | refine LeO.ite ?_ ?_
   | refine LeO.bind ?_ (fun _ => ?_)
  ·intro y0 y1 y2 y3
   unfold spec_Work.j2
   repeat' first
   | (with_reducible exact ih0 _ _ _ _ _ _ _ _ _ _ _ _ _)
   | (with_reducible exact ih1 _ _ _ _ _ _ _ _ _ _ _ _ _ _ _ _)
   | (with_reducible exact ih2 _ _ _ _)
   | (with_reducible exact spec_HartOk.mono _ _ _ _)
   | (with_reducible exact LeO.refl _)
   | (with_reducible exact LeO.none _)
   | (with_reducible refine LeO.ite ?_ ?_)
   | (with_reducible refine LeO.bind ?_ (fun _ => ?_))
   | exact ih0 _ _ _ _ _ _ _ _ _ _ _ _ _
   | exact ih1 _ _ _ _ _ _ _ _ _ _ _ _ _ _ _ _
   | exact ih2 _ _ _ _
   | exact spec_HartOk.mono _ _ _ _
   | exact LeO.none _
   | refine LeO.ite ?_ ?_
   | refine LeO.bind ?_ (fun _ => ?_)
theorem spec_Work.mono : ∀ a0 a1 a2 a3 a4 a5 a6 a7 a8 k, LeO (spec_Work.f k a0 a1 a2 a3 a4 a5 a6 a7 a8) (spec_Work.f (k + 1) a0 a1 a2 a3 a4 a5 a6 a7 a8) := by
 intro a0 a1 a2 a3 a4 a5 a6 a7 a8 k
 obtain ⟨ih0, ih1, ih2⟩ := spec_Work.mono_l k
 unfold spec_Work.f
 repeat' first
   | (with_reducible exact ih0 _ _ _ _ _ _ _ _ _ _ _ _ _)
   | (with_reducible exact ih1 _ _ _ _ _ _ _ _ _ _ _ _ _ _ _ _)
   | (with_reducible exact ih2 _ _ _ _)
   | (with_reducible exact spec_HartOk.mono _ _ _ _)
   | (with_reducible exact LeO.refl _)
   | (with_reducible exact LeO.none _)
   | (with_reducible refine LeO.ite ?_ ?_)
   | (with_reducible refine LeO.bind ?_ (fun _ => ?_))
   | exact ih0 _ _ _ _ _ _ _ _ _ _ _ _ _
   | exact ih1 _ _ _ _ _ _ _ _ _ _ _ _ _ _ _ _
   | exact ih2 _ _ _ _
   | exact spec_HartOk.mono _ _ _ _
   | exact LeO.none _
   | refine LeO.ite ?_ ?_
   | refine LeO.bind ?_ (fun _ => ?_)
def spec_Work.T10 : Bool × List (List Nat × List Nat) := (true, [([], []), ([0], [0]), ([], []), ([2], [2]), ([1, 3], [1, 3]), ([4], [4]), ([], []), ([6], [6]), ([], []), ([8], [8]), ([7, 9], [7, 9]), ([10], [10]), ([5, 0, 1, 2, 3, 4, 5], [5]), ([11, 12, 0, 1, 2, 3, 4, 5, 6, 7, 8, 9, 10, 11, 12], [11])])
def spec_Work.B10 : List Nat := [0, 1, 0, 4, 15, 31, 0, 64, 0, 256, 960, 1984, 63, 8191]
theorem spec_Work.tab10 : rtab .any (opsOf Try.f79 10) = spec_Work.T10 := by kernel_rfl
theorem spec_Work.bits10 : waitsOk spec_Work.T10.2 spec_Work.B10 = true := by kernel_rfl
def spec_Work.T15 : Bool × List (List Nat × List Nat) := (true, [([], []), ([0], [0]), ([], []), ([2], [2]), ([], []), ([], []), ([4, 5], [4, 5]), ([6], [6]), ([1, 3, 0, 1, 2, 3, 4, 5, 6, 7], [1, 3]), ([8, 7, 7, 0, 1, 2, 3, 4, 5, 6, 7], [7, 8])])
def spec_Work.B15 : List Nat := [0, 1, 0, 4, 0, 0, 48, 112, 255, 511]
theorem spec_Work.tab15 : rtab .any (opsOf Try.f79 15) = spec_Work.T15 := by kernel_rfl
theorem spec_Work.bits15 : waitsOk spec_Work.T15.2 spec_Work.B15 = true := by kernel_rfl
def spec_Work.T17 : Bool × List (List Nat × List Nat) := (true, [([], []), ([0], [0]), ([], []), ([2], [2]), ([], []), ([], []), ([4, 5], [4, 5]), ([6], [6]), ([1, 3, 0, 1, 2, 3, 4, 5, 6, 7], [1, 3]), ([8, 7, 7, 0, 1, 2, 3, 4, 5, 6, 7], [7, 8])])
def spec_Work.B17 : List Nat := [0, 1, 0, 4, 0, 0, 48, 112, 255, 511]
theorem spec_Work.tab17 : rtab .any (opsOf Try.f79 17) = spec_Work.T17 := by kernel_rfl
theorem spec_Work.bits17 : waitsOk spec_Work.T17.2 spec_Work.B17 = true := by kernel_rfl
def spec_Work.T19 : Bool × List (List Nat × List Nat) := (true, [([], []), ([0], [0]), ([], []), ([2], [2]), ([], []), ([], []), ([5], [5]), ([4, 6], [4, 6]), ([7], [7]), ([1, 3, 0, 1, 2, 3, 4, 5, 6, 7, 8], [1, 3]), ([9, 8, 8, 0, 1, 2, 3, 4, 5, 6, 7, 8], [8, 9])])
def spec_Work.B19 : List Nat := [0, 1, 0, 4, 0, 0, 32, 112, 240, 511, 1023]
theorem spec_Work.tab19 : rtab .any (opsOf Try.f79 19) = spec_Work.T19 := by kernel_rfl
theorem spec_Work.bits19 : waitsOk spec_Work.T19.2 spec_Work.B19 = true := by kernel_rfl
set_option maxHeartbeats 8000000 in
set_option maxRecDepth 100000 in
theorem spec_Work.calls (k : Nat) (A0_0 : Option Addr) (c0_0 : Nat) (l0_0 : List Int) (a0_1 : Int) (a0_2 : Int) (a1_0 : Int) (a1_1 : Int) (a1_2 : Int) (a1_3 : Int) (a1_4 : Int) (a2 : Int) (r1 : List Int) (r2 : Int) (r3 : Int) (r4 : Int) (w : World) (hr0_0 : Kd.C (Kd.int .i64) w A0_0 l0_0.length l0_0) (hc0_0 : l0_0.length ≤ c0_0) (h : spec_Work.f k l0_0 a0_1 a0_2 a1_0 a1_1 a1_2 a1_3 a1_4 a2 = some (r1, r2, r3, r4)) :
  Calls Try.prog 79 #[.agg #[.slice A0_0 l0_0.length c0_0, .int .i64 a0_1, .int .i64 a0_2], .agg #[.int .i64 a1_0, .int .i64 a1_1, .int .i64 a1_2, .int .i64 a1_3, .int .i64 a1_4], .int .i64 a2] w fun e w' => ∃ v0_ : Value, e = .returned (.tuple #[.agg #[v0_, .int .i64 r2, .int .i64 r3], .int .i64 r4]) ∧ Kd.R (Kd.int .i64) 3 w' w.heap.size (fun _ => True) v0_ r1 ∧ Below w.heap.size w w' := by
 have hu49 := Try.underlying49
 have hu71 := Try.underlying71
 have HR0_0 := Aside0.mk hr0_0
 have HC0_0 := Aside0.mk hc0_0
 clear hr0_0 hc0_0
 have HB := Aside0.mk (Below.refl w.heap.size w)
 have H : ((spec_l9Copy.f l0_0 a0_1 a0_2).bind fun bt143 => ((spec_HartOk.f k l0_0 a0_1 a0_2).bind fun t149 => (if t149 = true then (if a0_2 = 0 then ((spec_l1In.f a2 0 65535).bind fun t150 => (spec_Work.j0 k a2 (!t150) l0_0 a0_1 a0_2 a1_0 a1_1 a1_2 a1_3 a1_4 bt143.1 bt143.2.1 bt143.2.2)) else (spec_Work.j0 k a2 true l0_0 a0_1 a0_2 a1_0 a1_1 a1_2 a1_3 a1_4 bt143.1 bt143.2.1 bt143.2.2)) else (spec_Work.j0 k a2 true l0_0 a0_1 a0_2 a1_0 a1_1 a1_2 a1_3 a1_4 bt143.1 bt143.2.1 bt143.2.2)))) = some (r1, r2, r3, r4) := h
 clear h
 replace H := Option.bind_eq_some_iff.mp H
 obtain ⟨⟨t143, t146, t147⟩, A40, H⟩ := H
 replace H : ((spec_HartOk.f k l0_0 a0_1 a0_2).bind fun t149 => (if t149 = true then (if a0_2 = 0 then ((spec_l1In.f a2 0 65535).bind fun t150 => (spec_Work.j0 k a2 (!t150) l0_0 a0_1 a0_2 a1_0 a1_1 a1_2 a1_3 a1_4 t143 t146 t147)) else (spec_Work.j0 k a2 true l0_0 a0_1 a0_2 a1_0 a1_1 a1_2 a1_3 a1_4 t143 t146 t147)) else (spec_Work.j0 k a2 true l0_0 a0_1 a0_2 a1_0 a1_1 a1_2 a1_3 a1_4 t143 t146 t147))) = some (r1, r2, r3, r4) := H
 have A4 := Aside0.mk A40
 clear A40
 have HC5 := Aside0.mk H
 clear H
 go_enter Try.func79, Try.ntmps79
 go_upto_region 2 with (first | ((with_reducible refine gate_dst (N := 3) rfl ?_); refine box_event ?hg (N := 3) ?hd (cs := #[.slice A0_0 l0_0.length c0_0, .int .i64 a0_1, .int .i64 a0_2]) (t := 49) ?hr ?_; (case hd => rfl); (case hg => rfl); (case hr => first | (go_simp; done) | (go_simp; rfl)); intro gb140 hg w6 hbox hb; have n0_ := Aside0.mk (below_step (zB3_0) hb); have n1_ := Aside0.mk (hbox); have n2_ := Aside0.mk ((by rw [hg]; exact (below_size (zB3_0)) : w.heap.size ≤ gb140)); have n3_ := Aside0.mk ((by rw [hg]; exact (below_size (zB3_0)) : w.heap.size ≤ gb140)); clear HB; have HB := n0_; have BK140 := n1_; have GW140 := n2_; have GE140 := n3_; clear n0_ n1_ n2_ n3_; clear hb hbox hg) | ((with_reducible refine gate_dst (N := 4) rfl ?_); refine box_event ?hg (N := 4) ?hd (cs := #[.int .i64 a1_0, .int .i64 a1_1, .int .i64 a1_2, .int .i64 a1_3, .int .i64 a1_4]) (t := 71) ?hr ?_; (case hd => rfl); (case hg => rfl); (case hr => first | (go_simp; done) | (go_simp; rfl)); intro gb141 hg w7 hbox hb; have n0_ := Aside0.mk (zb3 BK140.out hb); have n1_ := Aside0.mk (below_step (zB3_1) hb); have n2_ := Aside0.mk (hbox); have n3_ := Aside0.mk ((by rw [hg]; exact (below_size (zB3_1)) : w.heap.size ≤ gb141)); have n4_ := Aside0.mk ((by rw [hg]; exact (below_size (zB3_1)) : w.heap.size ≤ gb141)); have n5_ := Aside0.mk ((zn3 BK140.out hg : gb140 ≠ gb141)); have n6_ := Aside0.mk ((zm3 BK140.out hg : gb141 ≠ gb140)); clear BK140; clear HB; have BK140 := n0_; have HB := n1_; have BK141 := n2_; have GW141 := n3_; have GE141 := n4_; have NB140_141 := n5_; have NB141_140 := n6_; clear n0_ n1_ n2_ n3_ n4_ n5_ n6_; clear hb hbox hg) | ((with_reducible refine gate_dst (N := 6) rfl ?_); refine box_event ?hg (N := 6) ?hd (cs := #[.slice none 0 0, .int .i64 0, .int .i64 0]) (t := 49) ?hr ?_; (case hd => rfl); (case hg => rfl); (case hr => first | (go_simp; done) | (go_simp; rfl)); intro gb142 hg w8 hbox hb; have n0_ := Aside0.mk (zb3 BK140.out hb); have n1_ := Aside0.mk (zb3 BK141.out hb); have n2_ := Aside0.mk (below_step (zB3_2) hb); have n3_ := Aside0.mk (hbox); have n4_ := Aside0.mk ((by rw [hg]; exact (below_size (zB3_2)) : w.heap.size ≤ gb142)); have n5_ := Aside0.mk ((by rw [hg]; exact (below_size (zB3_2)) : w.heap.size ≤ gb142)); have n6_ := Aside0.mk ((zn3 BK140.out hg : gb140 ≠ gb142)); have n7_ := Aside0.mk ((zm3 BK140.out hg : gb142 ≠ gb140)); have n8_ := Aside0.mk ((zn3 BK141.out hg : gb141 ≠ gb142)); have n9_ := Aside0.mk ((zm3 BK141.out hg : gb142 ≠ gb141)); clear BK140; clear BK141; clear HB; have BK140 := n0_; have BK141 := n1_; have HB := n2_; have BK142 := n3_; have GW142 := n4_; have GE142 := n5_; have NB140_142 := n6_; have NB142_140 := n7_; have NB141_142 := n8_; have NB142_141 := n9_; clear n0_ n1_ n2_ n3_ n4_ n5_ n6_ n7_ n8_ n9_; clear hb hbox hg; have hnb9 := NB140_141.out; have hnc9 := NB141_140.out; have hnb10 := NB140_142.out; have hnc10 := NB142_140.out; obtain ⟨hcz11_0, hcz11_1, hcz11_2, hfz11_0, hfz11_1, hfz11_2⟩ := zc3_3 (w := w8) BK140.out) | ((with_reducible refine gate_callee (f := 80) rfl ?_); refine goesL_ (some 13) rfl rfl Try.func80 (by kernel_rfl) rfl #[.agg #[.slice A0_0 l0_0.length c0_0, .int .i64 a0_1, .int .i64 a0_2]] rfl zT3 ?_; (with_reducible refine (spec_l9Copy.calls _ _ l0_0 a0_1 a0_2 t143 t146 t147 _ ?side1 ?side2 A4.out).mono ?_); (case side1 => exact zC3 (Kd.C_below HR0_0.out HB.out)); (case side2 => exact HC0_0.out); rintro e w12 ⟨v144, rfl, ho0, hb⟩; refine ⟨_, rfl, ?_⟩; have n0_ := Aside0.mk (Kd.R_lower ho0 (below_size (zB3_3))); have n1_ := Aside0.mk (zb3 BK140.out hb); have n2_ := Aside0.mk (zb3 BK141.out hb); have n3_ := Aside0.mk (zb3 BK142.out hb); have n4_ := Aside0.mk (below_step (zB3_3) hb); clear BK140; clear BK141; clear BK142; clear HB; have HO145 := n0_; have BK140 := n1_; have BK141 := n2_; have BK142 := n3_; have HB := n4_; clear n0_ n1_ n2_ n3_ n4_; (try clear hb); (try clear hb2); (try clear hk); (try clear hi); (try clear ho0)) | ((with_reducible refine gate_dst (N := 8) rfl ?_); refine box_event ?hg (N := 8) ?hd (cs := #[.slice none 0 0, .int .i64 0, .int .i64 0]) (t := 49) ?hr ?_; (case hd => rfl); (case hg => rfl); (case hr => first | (go_simp; done) | (go_simp; rfl)); intro gb148 hg w13 hbox hb; have n0_ := Aside0.mk (Kd.R_below (zR3 HO145.out) hb); have n1_ := Aside0.mk (zb3 BK140.out hb); have n2_ := Aside0.mk (zb3 BK141.out hb); have n3_ := Aside0.mk (zb3 BK142.out hb); have n4_ := Aside0.mk (below_step (zB3_3) hb); have n5_ := Aside0.mk (hbox); have n6_ := Aside0.mk ((by rw [hg]; exact (below_size (zB3_3)) : w.heap.size ≤ gb148)); have n7_ := Aside0.mk ((by rw [hg]; exact (below_size (zB3_3)) : w.heap.size ≤ gb148)); have n8_ := Aside0.mk ((zn3 BK140.out hg : gb140 ≠ gb148)); have n9_ := Aside0.mk ((zm3 BK140.out hg : gb148 ≠ gb140)); have n10_ := Aside0.mk ((zn3 BK141.out hg : gb141 ≠ gb148)); have n11_ := Aside0.mk ((zm3 BK141.out hg : gb148 ≠ gb141)); have n12_ := Aside0.mk ((zn3 BK142.out hg : gb142 ≠ gb148)); have n13_ := Aside0.mk ((zm3 BK142.out hg : gb148 ≠ gb142)); clear HO145; clear BK140; clear BK141; clear BK142; clear HB; have HO145 := n0_; have BK140 := n1_; have BK141 := n2_; have BK142 := n3_; have HB := n4_; have BK148 := n5_; have GW148 := n6_; have GE148 := n7_; have NB140_148 := n8_; have NB148_140 := n9_; have NB141_148 := n10_; have NB148_141 := n11_; have NB142_148 := n12_; have NB148_142 := n13_; clear n0_ n1_ n2_ n3_ n4_ n5_ n6_ n7_ n8_ n9_ n10_ n11_ n12_ n13_; clear hb hbox hg; obtain ⟨Ao14, co14, eo14⟩ := Kd.R_slice HO145.out; subst eo14; have hnb15 := NB148_140.out; have hnc15 := NB140_148.out; have hnb16 := NB148_141.out; have hnc16 := NB141_148.out; have hnb17 := NB148_142.out; have hnc17 := NB142_148.out; obtain ⟨hcz18_0, hcz18_1, hcz18_2, hfz18_0, hfz18_1, hfz18_2⟩ := zc3_3 (w := w13) BK148.out))
 (try simp only [Act.put, List.setIfInBounds_toArray, List.set_cons_zero, List.set_cons_succ])
 go_cut [26] (fun v26 wc => ∃ (kq : Nat) (x26_4 : Bool), v26 = .bool x26_4 ∧ Aside0 (spec_Work.j0 kq a2 x26_4 l0_0 a0_1 a0_2 a1_0 a1_1 a1_2 a1_3 a1_4 t143 t146 t147 = some (r1, r2, r3, r4)) ∧ Aside0 (kq ≤ k) ∧ Aside0 (Kd.R (Kd.int .i64) 3 wc w.heap.size (fun _ => True) (.slice Ao14 t143.length co14) t143) ∧ Aside0 (wc.heap[gb140]? = some (.cells #[(.slice A0_0 l0_0.length c0_0), .int .i64 a0_1, .int .i64 a0_2] 49 (0, 0))) ∧ Aside0 (wc.heap[gb141]? = some (.cells #[.int .i64 a1_0, .int .i64 a1_1, .int .i64 a1_2, .int .i64 a1_3, .int .i64 a1_4] 71 (0, 0))) ∧ Aside0 (wc.heap[gb142]? = some (.cells #[(.slice none 0 0), .int .i64 0, .int .i64 0] 49 (0, 0))) ∧ Aside0 (wc.heap[gb148]? = some (.cells #[(.slice Ao14 t143.length co14), .int .i64 t146, .int .i64 t147] 49 (0, 0))) ∧ Aside0 (Below w.heap.size w wc))
 case first =>
  have H := HC5.out
  clear HC5
  replace H := Option.bind_eq_some_iff.mp H
  obtain ⟨t149, A190, H⟩ := H
  replace H : (if t149 = true then (if a0_2 = 0 then ((spec_l1In.f a2 0 65535).bind fun t150 => (spec_Work.j0 k a2 (!t150) l0_0 a0_1 a0_2 a1_0 a1_1 a1_2 a1_3 a1_4 t143 t146 t147)) else (spec_Work.j0 k a2 true l0_0 a0_1 a0_2 a1_0 a1_1 a1_2 a1_3 a1_4 t143 t146 t147)) else (spec_Work.j0 k a2 true l0_0 a0_1 a0_2 a1_0 a1_1 a1_2 a1_3 a1_4 t143 t146 t147)) = some (r1, r2, r3, r4) := H
  have A19 := Aside0.mk A190
  clear A190
  by_cases c20 : t149 = true
  rotate_left
  ·replace c20 := Bool.eq_false_iff.mpr c20
   subst c20
   have H1 : (spec_Work.j0 k a2 true l0_0 a0_1 a0_2 a1_0 a1_1 a1_2 a1_3 a1_4 t143 t146 t147) = some (r1, r2, r3, r4) := by rw [if_neg (show ¬ (false = true) by decide)] at H; exact H
   clear H
   have H := H1
   clear H1
   have H' := Aside0.mk H
   clear H
   have hnb35 := NB140_141.out
   have hnc35 := NB141_140.out
   have hnb36 := NB140_142.out
   have hnc36 := NB142_140.out
   have hnb37 := NB140_148.out
   have hnc37 := NB148_140.out
   obtain ⟨hcz38_0, hcz38_1, hcz38_2, hfz38_0, hfz38_1, hfz38_2⟩ := zc3_3 (w := w13) BK140.out
   go_wp2_with (first | ((with_reducible refine gate_callee (f := 76) rfl ?_); refine goesL_ (some 15) rfl rfl Try.func76 (by kernel_rfl) rfl #[.agg #[.slice A0_0 l0_0.length c0_0, .int .i64 a0_1, .int .i64 a0_2]] rfl zT3 ?_; (with_reducible refine (spec_HartOk.calls k _ _ l0_0 a0_1 a0_2 false _ ?side1 ?side2 A19.out).mono ?_); (case side1 => exact Kd.C_below HR0_0.out (zB3_4)); (case side2 => exact HC0_0.out); rintro e w39 ⟨rfl, hb⟩; refine ⟨_, rfl, ?_⟩; have n0_ := Aside0.mk (Kd.R_below (by (with_reducible repeat (first | apply Kd.R_alloc | apply Kd.R_drewN | apply Kd.R_drew)); exact (Kd.R_mono (Kd.R_far (p := ⟨gb148, 2, none⟩) (Kd.R_far (p := ⟨gb148, 1, none⟩) (Kd.R_far (p := ⟨gb148, 0, none⟩) (Kd.R_types HO145.out BK148.out (by decide)) (fun _ hk => hk.2) (.slice Ao14 t143.length co14)) (fun _ hk => hk.2) (.int .i64 t146)) (fun _ hk => hk.2) (.int .i64 t147)) (fun _ h_ => h_.1))) hb); have n1_ := Aside0.mk (blk_below (g := gb140) (o := .cells #[.slice A0_0 l0_0.length c0_0, .int .i64 a0_1, .int .i64 a0_2] 49 (0, 0)) (by refine zP3 ?_; refine blk_far ?_ NB140_148.out _; refine zP3 ?_; refine blk_far ?_ NB140_148.out _; refine zP3 ?_; refine blk_far ?_ NB140_148.out _; refine zP3 ?_; exact BK140.out) hb); have n2_ := Aside0.mk (blk_below (g := gb141) (o := .cells #[.int .i64 a1_0, .int .i64 a1_1, .int .i64 a1_2, .int .i64 a1_3, .int .i64 a1_4] 71 (0, 0)) (by refine zP3 ?_; refine blk_far ?_ NB141_148.out _; refine zP3 ?_; refine blk_far ?_ NB141_148.out _; refine zP3 ?_; refine blk_far ?_ NB141_148.out _; refine zP3 ?_; exact BK141.out) hb); have n3_ := Aside0.mk (blk_below (g := gb142) (o := .cells #[.slice none 0 0, .int .i64 0, .int .i64 0] 49 (0, 0)) (by refine zP3 ?_; refine blk_far ?_ NB142_148.out _; refine zP3 ?_; refine blk_far ?_ NB142_148.out _; refine zP3 ?_; refine blk_far ?_ NB142_148.out _; refine zP3 ?_; exact BK142.out) hb); have n4_ := Aside0.mk (blk_below (g := gb148) (o := .cells #[.slice Ao14 t143.length co14, .int .i64 t146, .int .i64 t147] 49 (0, 0)) (by refine zP3 ?_; refine blk_put (cs := #[.slice Ao14 t143.length co14, .int .i64 t146, .int .i64 0]) ?_ 2 _ rfl; refine zP3 ?_; refine blk_put (cs := #[.slice Ao14 t143.length co14, .int .i64 0, .int .i64 0]) ?_ 1 _ rfl; refine zP3 ?_; refine blk_put (cs := #[.slice none 0 0, .int .i64 0, .int .i64 0]) ?_ 0 _ rfl; refine zP3 ?_; exact BK148.out) hb); have n5_ := Aside0.mk (below_step (zB3_4) hb); clear HO145; clear BK140; clear BK141; clear BK142; clear BK148; clear HB; have HO145 := n0_; have BK140 := n1_; have BK141 := n2_; have BK142 := n3_; have BK148 := n4_; have HB := n5_; clear n0_ n1_ n2_ n3_ n4_ n5_; (try clear hb); (try clear hb2); (try clear hk); (try clear hi)))
   go_meet
   case rel => exact ⟨_, (true), (by first | rfl | (simp; done) | (simp [*]; done)), H', ⟨by first | omega | exact Nat.le_refl _⟩, ⟨zR3 HO145.out⟩, ⟨zK3 BK140.out⟩, ⟨zK3 BK141.out⟩, ⟨zK3 BK142.out⟩, ⟨zK3 BK148.out⟩, ⟨zB3_4⟩⟩
  subst c20
  have H1 : (if a0_2 = 0 then ((spec_l1In.f a2 0 65535).bind fun t150 => (spec_Work.j0 k a2 (!t150) l0_0 a0_1 a0_2 a1_0 a1_1 a1_2 a1_3 a1_4 t143 t146 t147)) else (spec_Work.j0 k a2 true l0_0 a0_1 a0_2 a1_0 a1_1 a1_2 a1_3 a1_4 t143 t146 t147)) = some (r1, r2, r3, r4) := by rw [if_pos rfl] at H; exact H
  clear H
  have H := H1
  clear H1
  by_cases c21 : a0_2 = 0
  rotate_left
  ·rw [if_neg c21] at H
   have c21b0 : (a0_2 == 0) = false := beq_eq_false_iff_ne.mpr c21
   have c21b1 : (a0_2 != 0) = true := bne_iff_ne.mpr c21
   (first | rw [c21b0] | (simp only [i64_w, i32_w]; rw [c21b0]) | skip)
   have H' := Aside0.mk H
   clear H
   have hnb29 := NB140_141.out
   have hnc29 := NB141_140.out
   have hnb30 := NB140_142.out
   have hnc30 := NB142_140.out
   have hnb31 := NB140_148.out
   have hnc31 := NB148_140.out
   obtain ⟨hcz32_0, hcz32_1, hcz32_2, hfz32_0, hfz32_1, hfz32_2⟩ := zc3_3 (w := w13) BK140.out
   go_wp2_with (first | ((with_reducible refine gate_callee (f := 76) rfl ?_); refine goesL_ (some 15) rfl rfl Try.func76 (by kernel_rfl) rfl #[.agg #[.slice A0_0 l0_0.length c0_0, .int .i64 a0_1, .int .i64 a0_2]] rfl zT3 ?_; (with_reducible refine (spec_HartOk.calls k _ _ l0_0 a0_1 a0_2 true _ ?side1 ?side2 A19.out).mono ?_); (case side1 => exact Kd.C_below HR0_0.out (zB3_4)); (case side2 => exact HC0_0.out); rintro e w33 ⟨rfl, hb⟩; refine ⟨_, rfl, ?_⟩; have n0_ := Aside0.mk (Kd.R_below (by (with_reducible repeat (first | apply Kd.R_alloc | apply Kd.R_drewN | apply Kd.R_drew)); exact (Kd.R_mono (Kd.R_far (p := ⟨gb148, 2, none⟩) (Kd.R_far (p := ⟨gb148, 1, none⟩) (Kd.R_far (p := ⟨gb148, 0, none⟩) (Kd.R_types HO145.out BK148.out (by decide)) (fun _ hk => hk.2) (.slice Ao14 t143.length co14)) (fun _ hk => hk.2) (.int .i64 t146)) (fun _ hk => hk.2) (.int .i64 t147)) (fun _ h_ => h_.1))) hb); have n1_ := Aside0.mk (blk_below (g := gb140) (o := .cells #[.slice A0_0 l0_0.length c0_0, .int .i64 a0_1, .int .i64 a0_2] 49 (0, 0)) (by refine zP3 ?_; refine blk_far ?_ NB140_148.out _; refine zP3 ?_; refine blk_far ?_ NB140_148.out _; refine zP3 ?_; refine blk_far ?_ NB140_148.out _; refine zP3 ?_; exact BK140.out) hb); have n2_ := Aside0.mk (blk_below (g := gb141) (o := .cells #[.int .i64 a1_0, .int .i64 a1_1, .int .i64 a1_2, .int .i64 a1_3, .int .i64 a1_4] 71 (0, 0)) (by refine zP3 ?_; refine blk_far ?_ NB141_148.out _; refine zP3 ?_; refine blk_far ?_ NB141_148.out _; refine zP3 ?_; refine blk_far ?_ NB141_148.out _; refine zP3 ?_; exact BK141.out) hb); have n3_ := Aside0.mk (blk_below (g := gb142) (o := .cells #[.slice none 0 0, .int .i64 0, .int .i64 0] 49 (0, 0)) (by refine zP3 ?_; refine blk_far ?_ NB142_148.out _; refine zP3 ?_; refine blk_far ?_ NB142_148.out _; refine zP3 ?_; refine blk_far ?_ NB142_148.out _; refine zP3 ?_; exact BK142.out) hb); have n4_ := Aside0.mk (blk_below (g := gb148) (o := .cells #[.slice Ao14 t143.length co14, .int .i64 t146, .int .i64 t147] 49 (0, 0)) (by refine zP3 ?_; refine blk_put (cs := #[.slice Ao14 t143.length co14, .int .i64 t146, .int .i64 0]) ?_ 2 _ rfl; refine zP3 ?_; refine blk_put (cs := #[.slice Ao14 t143.length co14, .int .i64 0, .int .i64 0]) ?_ 1 _ rfl; refine zP3 ?_; refine blk_put (cs := #[.slice none 0 0, .int .i64 0, .int .i64 0]) ?_ 0 _ rfl; refine zP3 ?_; exact BK148.out) hb); have n5_ := Aside0.mk (below_step (zB3_4) hb); clear HO145; clear BK140; clear BK141; clear BK142; clear BK148; clear HB; have HO145 := n0_; have BK140 := n1_; have BK141 := n2_; have BK142 := n3_; have BK148 := n4_; have HB := n5_; clear n0_ n1_ n2_ n3_ n4_ n5_; (try clear hb); (try clear hb2); (try clear hk); (try clear hi); obtain ⟨hcz34_0, hcz34_1, hcz34_2, hfz34_0, hfz34_1, hfz34_2⟩ := zc3_3 (w := w33) BK140.out))
   go_meet
   case rel => exact ⟨_, (true), (by first | rfl | (simp; done) | (simp [*]; done)), H', ⟨by first | omega | exact Nat.le_refl _⟩, ⟨zR3 HO145.out⟩, ⟨zK3 BK140.out⟩, ⟨zK3 BK141.out⟩, ⟨zK3 BK142.out⟩, ⟨zK3 BK148.out⟩, ⟨zB3_4⟩⟩
  rw [if_pos c21] at H
  have c21b0 : (a0_2 == 0) = true := beq_iff_eq.mpr c21
  have c21b1 : (a0_2 != 0) = false := bne_eq_false_iff_eq.mpr c21
  clear c21
  (first | rw [c21b0] | (simp only [i64_w, i32_w]; rw [c21b0]) | skip)
  replace H := Option.bind_eq_some_iff.mp H
  obtain ⟨t150, A220, H⟩ := H
  replace H : (spec_Work.j0 k a2 (!t150) l0_0 a0_1 a0_2 a1_0 a1_1 a1_2 a1_3 a1_4 t143 t146 t147) = some (r1, r2, r3, r4) := H
  have A22 := Aside0.mk A220
  clear A220
  have H' := Aside0.mk H
  clear H
  have hnb23 := NB140_141.out
  have hnc23 := NB141_140.out
  have hnb24 := NB140_142.out
  have hnc24 := NB142_140.out
  have hnb25 := NB140_148.out
  have hnc25 := NB148_140.out
  obtain ⟨hcz26_0, hcz26_1, hcz26_2, hfz26_0, hfz26_1, hfz26_2⟩ := zc3_3 (w := w13) BK140.out
  go_wp2_with (first | ((with_reducible refine gate_callee (f := 76) rfl ?_); refine goesL_ (some 15) rfl rfl Try.func76 (by kernel_rfl) rfl #[.agg #[.slice A0_0 l0_0.length c0_0, .int .i64 a0_1, .int .i64 a0_2]] rfl zT3 ?_; (with_reducible refine (spec_HartOk.calls k _ _ l0_0 a0_1 a0_2 true _ ?side1 ?side2 A19.out).mono ?_); (case side1 => exact Kd.C_below HR0_0.out (zB3_4)); (case side2 => exact HC0_0.out); rintro e w27 ⟨rfl, hb⟩; refine ⟨_, rfl, ?_⟩; have n0_ := Aside0.mk (Kd.R_below (by (with_reducible repeat (first | apply Kd.R_alloc | apply Kd.R_drewN | apply Kd.R_drew)); exact (Kd.R_mono (Kd.R_far (p := ⟨gb148, 2, none⟩) (Kd.R_far (p := ⟨gb148, 1, none⟩) (Kd.R_far (p := ⟨gb148, 0, none⟩) (Kd.R_types HO145.out BK148.out (by decide)) (fun _ hk => hk.2) (.slice Ao14 t143.length co14)) (fun _ hk => hk.2) (.int .i64 t146)) (fun _ hk => hk.2) (.int .i64 t147)) (fun _ h_ => h_.1))) hb); have n1_ := Aside0.mk (blk_below (g := gb140) (o := .cells #[.slice A0_0 l0_0.length c0_0, .int .i64 a0_1, .int .i64 a0_2] 49 (0, 0)) (by refine zP3 ?_; refine blk_far ?_ NB140_148.out _; refine zP3 ?_; refine blk_far ?_ NB140_148.out _; refine zP3 ?_; refine blk_far ?_ NB140_148.out _; refine zP3 ?_; exact BK140.out) hb); have n2_ := Aside0.mk (blk_below (g := gb141) (o := .cells #[.int .i64 a1_0, .int .i64 a1_1, .int .i64 a1_2, .int .i64 a1_3, .int .i64 a1_4] 71 (0, 0)) (by refine zP3 ?_; refine blk_far ?_ NB141_148.out _; refine zP3 ?_; refine blk_far ?_ NB141_148.out _; refine zP3 ?_; refine blk_far ?_ NB141_148.out _; refine zP3 ?_; exact BK141.out) hb); have n3_ := Aside0.mk (blk_below (g := gb142) (o := .cells #[.slice none 0 0, .int .i64 0, .int .i64 0] 49 (0, 0)) (by refine zP3 ?_; refine blk_far ?_ NB142_148.out _; refine zP3 ?_; refine blk_far ?_ NB142_148.out _; refine zP3 ?_; refine blk_far ?_ NB142_148.out _; refine zP3 ?_; exact BK142.out) hb); have n4_ := Aside0.mk (blk_below (g := gb148) (o := .cells #[.slice Ao14 t143.length co14, .int .i64 t146, .int .i64 t147] 49 (0, 0)) (by refine zP3 ?_; refine blk_put (cs := #[.slice Ao14 t143.length co14, .int .i64 t146, .int .i64 0]) ?_ 2 _ rfl; refine zP3 ?_; refine blk_put (cs := #[.slice Ao14 t143.length co14, .int .i64 0, .int .i64 0]) ?_ 1 _ rfl; refine zP3 ?_; refine blk_put (cs := #[.slice none 0 0, .int .i64 0, .int .i64 0]) ?_ 0 _ rfl; refine zP3 ?_; exact BK148.out) hb); have n5_ := Aside0.mk (below_step (zB3_4) hb); clear HO145; clear BK140; clear BK141; clear BK142; clear BK148; clear HB; have HO145 := n0_; have BK140 := n1_; have BK141 := n2_; have BK142 := n3_; have BK148 := n4_; have HB := n5_; clear n0_ n1_ n2_ n3_ n4_ n5_; (try clear hb); (try clear hb2); (try clear hk); (try clear hi); obtain ⟨hcz28_0, hcz28_1, hcz28_2, hfz28_0, hfz28_1, hfz28_2⟩ := zc3_3 (w := w27) BK140.out) | (go_at_call 44; (with_reducible refine (spec_l1In.calls a2 0 65535 t150 _ A22.out).mono ?_); rintro e w' ⟨rfl, ⟨nd, rfl⟩⟩))
  go_meet
  case rel => exact ⟨_, (!t150), (by first | rfl | (simp; done) | (simp [*]; done)), H', ⟨by first | omega | exact Nat.le_refl _⟩, ⟨zR3 HO145.out⟩, ⟨zK3 BK140.out⟩, ⟨zK3 BK141.out⟩, ⟨zK3 BK142.out⟩, ⟨zK3 BK148.out⟩, ⟨zB3_4⟩⟩
 case rest =>
  clear HC5
  try clear c1
  try clear c2
  try clear p2
  try clear c3
  try clear c7
  try clear c8
  try clear c9
  try clear c10
  try clear c15
  try clear c16
  try clear c17
  try clear c20
  try clear c21
  try clear c21b0
  try clear c21b1
  try clear c23
  try clear c24
  try clear c25
  try clear c29
  try clear c30
  try clear c31
  try clear c35
  try clear c36
  try clear c37
  try clear hcz11_0
  try clear hcz11_1
  try clear hcz11_2
  try clear hcz18_0
  try clear hcz18_1
  try clear hcz18_2
  try clear hcz26_0
  try clear hcz26_1
  try clear hcz26_2
  try clear hcz28_0
  try clear hcz28_1
  try clear hcz28_2
  try clear hcz32_0
  try clear hcz32_1
  try clear hcz32_2
  try clear hcz34_0
  try clear hcz34_1
  try clear hcz34_2
  try clear hcz38_0
  try clear hcz38_1
  try clear hcz38_2
  try clear hfz11_0
  try clear hfz11_1
  try clear hfz11_2
  try clear hfz18_0
  try clear hfz18_1
  try clear hfz18_2
  try clear hfz26_0
  try clear hfz26_1
  try clear hfz26_2
  try clear hfz28_0
  try clear hfz28_1
  try clear hfz28_2
  try clear hfz32_0
  try clear hfz32_1
  try clear hfz32_2
  try clear hfz34_0
  try clear hfz34_1
  try clear hfz34_2
  try clear hfz38_0
  try clear hfz38_1
  try clear hfz38_2
  obtain ⟨kq, x26_4, rfl, HA, HJ4, HO_149000, BK140, BK141, BK142, BK148, HB⟩ := hcut
  cases kq with
  | zero => exact absurd HA.out (by simp [spec_Work.j0])
  | succ kj4 =>
   have H := HA.out
   clear HA
   simp only [spec_Work.j0] at H
   by_cases c40 : x26_4 = true
   ·subst c40
    have H1 : (some (t143, t146, t147, (-1))) = some (r1, r2, r3, r4) := by rw [if_pos rfl] at H; exact H
    clear H
    have H := H1
    clear H1
    simp only [Option.some.injEq, Prod.mk.injEq] at H
    obtain ⟨rfl, rfl, rfl, rfl⟩ := H
    have hnb41 := NB148_140.out
    have hnc41 := NB140_148.out
    have hnb42 := NB148_141.out
    have hnc42 := NB141_148.out
    have hnb43 := NB148_142.out
    have hnc43 := NB142_148.out
    obtain ⟨hcz44_0, hcz44_1, hcz44_2, hfz44_0, hfz44_1, hfz44_2⟩ := zc3_3 (w := wc) BK148.out
    have hnb45 := NB142_140.out
    have hnc45 := NB140_142.out
    have hnb46 := NB142_141.out
    have hnc46 := NB141_142.out
    obtain ⟨hcz47_0, hcz47_1, hcz47_2, hfz47_0, hfz47_1, hfz47_2⟩ := zc3_3 (w := wc) BK142.out
    go_wp2
    refine bodyPost_ret (results_ct rfl _ _ gb142 49 #[.slice Ao14 t143.length co14, .int .i64 t146, .int .i64 t147] (0, 0) _ rfl (by refine zP3 ?_; refine blk_put (cs := #[.slice Ao14 t143.length co14, .int .i64 t146, .int .i64 0]) ?_ 2 _ rfl; refine zP3 ?_; refine blk_put (cs := #[.slice Ao14 t143.length co14, .int .i64 0, .int .i64 0]) ?_ 1 _ rfl; refine zP3 ?_; refine blk_put (cs := #[.slice none 0 0, .int .i64 0, .int .i64 0]) ?_ 0 _ rfl; refine zP3 ?_; exact BK142.out) Try.underlying49 rfl (by kernel_rfl)) rfl ?_
    exact ⟨_, zE3, by (with_reducible repeat (first | apply Kd.R_alloc | apply Kd.R_drewN | apply Kd.R_drew)); exact Kd.R_mono (Kd.R_far (p := ⟨gb142, 2, none⟩) (Kd.R_far (p := ⟨gb142, 1, none⟩) (Kd.R_far (p := ⟨gb142, 0, none⟩) (Kd.R_types HO_149000.out BK142.out (by decide)) (fun _ hk => hk.2) (.slice Ao14 t143.length co14)) (fun _ hk => hk.2) (.int .i64 t146)) (fun _ hk => hk.2) (.int .i64 t147)) (fun _ hk => trivial), zB3_4⟩
   replace c40 := Bool.eq_false_iff.mpr c40
   subst c40
   have H1 : ((spec_l9Address.f (wrap64 (a0_1 + 1))).bind fun t151 => ((spec_InsOk.f a1_0 a1_1 a1_2 a1_3 a1_4).bind fun t152 => (if t152 = true then (if 0 ≤ a1_2 then (if a1_2 < (l0_0.length : Int) then (if 0 ≤ a1_3 then (if a1_3 < (l0_0.length : Int) then (spec_Work.j1 kj4 a2 (-1) (rd l0_0 a1_2) (rd l0_0 a1_3) a1_0 l0_0 a0_1 a0_2 a1_0 a1_1 a1_2 a1_3 a1_4 t143 t151 t147) else (none)) else (none)) else (none)) else (none)) else (some (t143, a0_1, 2, (-1)))))) = some (r1, r2, r3, r4) := by rw [if_neg (show ¬ (false = true) by decide)] at H; exact H
   clear H
   have H := H1
   clear H1
   replace H := Option.bind_eq_some_iff.mp H
   obtain ⟨t151, A480, H⟩ := H
   replace H : ((spec_InsOk.f a1_0 a1_1 a1_2 a1_3 a1_4).bind fun t152 => (if t152 = true then (if 0 ≤ a1_2 then (if a1_2 < (l0_0.length : Int) then (if 0 ≤ a1_3 then (if a1_3 < (l0_0.length : Int) then (spec_Work.j1 kj4 a2 (-1) (rd l0_0 a1_2) (rd l0_0 a1_3) a1_0 l0_0 a0_1 a0_2 a1_0 a1_1 a1_2 a1_3 a1_4 t143 t151 t147) else (none)) else (none)) else (none)) else (none)) else (some (t143, a0_1, 2, (-1))))) = some (r1, r2, r3, r4) := H
   have A48 := Aside0.mk A480
   clear A480
   replace H := Option.bind_eq_some_iff.mp H
   obtain ⟨t152, A490, H⟩ := H
   replace H : (if t152 = true then (if 0 ≤ a1_2 then (if a1_2 < (l0_0.length : Int) then (if 0 ≤ a1_3 then (if a1_3 < (l0_0.length : Int) then (spec_Work.j1 kj4 a2 (-1) (rd l0_0 a1_2) (rd l0_0 a1_3) a1_0 l0_0 a0_1 a0_2 a1_0 a1_1 a1_2 a1_3 a1_4 t143 t151 t147) else (none)) else (none)) else (none)) else (none)) else (some (t143, a0_1, 2, (-1)))) = some (r1, r2, r3, r4) := H
   have A49 := Aside0.mk A490
   clear A490
   by_cases c50 : t152 = true
   rotate_left
   ·replace c50 := Bool.eq_false_iff.mpr c50
    subst c50
    have H1 : (some (t143, a0_1, 2, (-1))) = some (r1, r2, r3, r4) := by rw [if_neg (show ¬ (false = true) by decide)] at H; exact H
    clear H
    have H := H1
    clear H1
    simp only [Option.some.injEq, Prod.mk.injEq] at H
    obtain ⟨rfl, rfl, rfl, rfl⟩ := H
    have hnb169 := NB140_141.out
    have hnc169 := NB141_140.out
    have hnb170 := NB140_142.out
    have hnc170 := NB142_140.out
    have hnb171 := NB140_148.out
    have hnc171 := NB148_140.out
    obtain ⟨hcz172_0, hcz172_1, hcz172_2, hfz172_0, hfz172_1, hfz172_2⟩ := zc3_3 (w := wc) BK140.out
    go_wp2_with (first | ((with_reducible refine gate_callee (f := 89) rfl ?_); refine goesL_ (some 31) rfl rfl Try.func89 (by kernel_rfl) rfl #[.int .i64 (wrap64 (a0_1 + 1))] rfl zT3 ?_; (with_reducible refine (spec_l9Address.calls (wrap64 (a0_1 + 1)) t151 _ A48.out).mono ?_); rintro e w' ⟨rfl, ⟨nd, rfl⟩⟩; refine ⟨_, rfl, ?_⟩; (try (rw [drewN_self wc]; generalize hq_ : World.drewN wc _ = wc; have n0_ : Aside0 (Kd.R (Kd.int .i64) 3 wc w.heap.size (fun _ => True) (.slice Ao14 t143.length co14) t143) := ⟨by rw [← hq_]; exact (zR3 HO_149000.out)⟩; have n1_ : Aside0 (wc.heap[gb140]? = some (.cells #[.slice A0_0 l0_0.length c0_0, .int .i64 a0_1, .int .i64 a0_2] 49 (0, 0))) := ⟨by rw [← hq_]; exact (zK3 BK140.out)⟩; have n2_ : Aside0 (wc.heap[gb141]? = some (.cells #[.int .i64 a1_0, .int .i64 a1_1, .int .i64 a1_2, .int .i64 a1_3, .int .i64 a1_4] 71 (0, 0))) := ⟨by rw [← hq_]; exact (zK3 BK141.out)⟩; have n3_ : Aside0 (wc.heap[gb142]? = some (.cells #[.slice none 0 0, .int .i64 0, .int .i64 0] 49 (0, 0))) := ⟨by rw [← hq_]; exact (zK3 BK142.out)⟩; have n4_ : Aside0 (wc.heap[gb148]? = some (.cells #[.slice Ao14 t143.length co14, .int .i64 t146, .int .i64 t147] 49 (0, 0))) := ⟨by rw [← hq_]; exact (zK3 BK148.out)⟩; have n5_ : Aside0 (Below w.heap.size w wc) := ⟨by rw [← hq_]; exact (zB3_4)⟩; clear HO_149000 BK140 BK141 BK142 BK148 HB hq_; have HO_149000 := n0_; have BK140 := n1_; have BK141 := n2_; have BK142 := n3_; have BK148 := n4_; have HB := n5_; clear n0_ n1_ n2_ n3_ n4_ n5_)); have hnb173 := NB148_141.out; have hnc173 := NB141_148.out; have hnb174 := NB148_142.out; have hnc174 := NB142_148.out; obtain ⟨hcz175_0, hcz175_1, hcz175_2, hfz175_0, hfz175_1, hfz175_2⟩ := zc3_3 (w := wc) BK148.out; have hnb176 := NB141_142.out; have hnc176 := NB142_141.out; obtain ⟨hcz177_0, hcz177_1, hcz177_2, hcz177_3, hcz177_4, hfz177_0, hfz177_1, hfz177_2, hfz177_3, hfz177_4⟩ := zc3_5 (w := wc) BK141.out) | ((with_reducible refine gate_callee (f := 88) rfl ?_); refine goesL_ (some 34) rfl rfl Try.func88 (by kernel_rfl) rfl #[.agg #[.int .i64 a1_0, .int .i64 a1_1, .int .i64 a1_2, .int .i64 a1_3, .int .i64 a1_4]] rfl zT3 ?_; (with_reducible refine (spec_InsOk.calls a1_0 a1_1 a1_2 a1_3 a1_4 false _ A49.out).mono ?_); rintro e w178 ⟨rfl, hb⟩; refine ⟨_, rfl, ?_⟩; have n0_ := Aside0.mk (Kd.R_below (by (with_reducible repeat (first | apply Kd.R_alloc | apply Kd.R_drewN | apply Kd.R_drew)); exact (Kd.R_mono (Kd.R_far (p := ⟨gb148, 1, none⟩) (Kd.R_types HO_149000.out BK148.out (by decide)) (fun _ hk => hk.2) (.int .i64 t151)) (fun _ h_ => h_.1))) hb); have n1_ := Aside0.mk (blk_below (g := gb140) (o := .cells #[.slice A0_0 l0_0.length c0_0, .int .i64 a0_1, .int .i64 a0_2] 49 (0, 0)) (by refine zP3 ?_; refine blk_far ?_ NB140_148.out _; refine zP3 ?_; exact BK140.out) hb); have n2_ := Aside0.mk (blk_below (g := gb141) (o := .cells #[.int .i64 a1_0, .int .i64 a1_1, .int .i64 a1_2, .int .i64 a1_3, .int .i64 a1_4] 71 (0, 0)) (by refine zP3 ?_; refine blk_far ?_ NB141_148.out _; refine zP3 ?_; exact BK141.out) hb); have n3_ := Aside0.mk (blk_below (g := gb142) (o := .cells #[.slice none 0 0, .int .i64 0, .int .i64 0] 49 (0, 0)) (by refine zP3 ?_; refine blk_far ?_ NB142_148.out _; refine zP3 ?_; exact BK142.out) hb); have n4_ := Aside0.mk (blk_below (g := gb148) (o := .cells #[.slice Ao14 t143.length co14, .int .i64 t151, .int .i64 t147] 49 (0, 0)) (by refine zP3 ?_; refine blk_put (cs := #[.slice Ao14 t143.length co14, .int .i64 t146, .int .i64 t147]) ?_ 1 _ rfl; refine zP3 ?_; exact BK148.out) hb); have n5_ := Aside0.mk (below_step (zB3_4) hb); clear HO_149000; clear BK140; clear BK141; clear BK142; clear BK148; clear HB; have HO_149000 := n0_; have BK140 := n1_; have BK141 := n2_; have BK142 := n3_; have BK148 := n4_; have HB := n5_; clear n0_ n1_ n2_ n3_ n4_ n5_; (try clear hb); (try clear hb2); (try clear hk); (try clear hi); obtain ⟨hcz179_0, hcz179_1, hcz179_2, hfz179_0, hfz179_1, hfz179_2⟩ := zc3_3 (w := w178) BK140.out; obtain ⟨hcz180_0, hcz180_1, hcz180_2, hfz180_0, hfz180_1, hfz180_2⟩ := zc3_3 (w := w178) BK148.out; obtain ⟨hcz181_0, hcz181_1, hcz181_2, hfz181_0, hfz181_1, hfz181_2⟩ := zc3_3 (w := w178) BK142.out))
    refine bodyPost_ret (results_ct rfl _ _ gb142 49 #[.slice Ao14 t143.length co14, .int .i64 a0_1, .int .i64 2] (0, 0) _ rfl (by refine zP3 ?_; refine blk_put (cs := #[.slice Ao14 t143.length co14, .int .i64 a0_1, .int .i64 0]) ?_ 2 _ rfl; refine zP3 ?_; refine blk_put (cs := #[.slice Ao14 t143.length co14, .int .i64 0, .int .i64 0]) ?_ 1 _ rfl; refine zP3 ?_; refine blk_put (cs := #[.slice none 0 0, .int .i64 0, .int .i64 0]) ?_ 0 _ rfl; refine zP3 ?_; refine blk_far ?_ NB142_148.out _; refine zP3 ?_; refine blk_far ?_ NB142_148.out _; refine zP3 ?_; exact BK142.out) Try.underlying49 rfl (by kernel_rfl)) rfl ?_
    exact ⟨_, zE3, by (with_reducible repeat (first | apply Kd.R_alloc | apply Kd.R_drewN | apply Kd.R_drew)); exact Kd.R_mono (Kd.R_far (p := ⟨gb142, 2, none⟩) (Kd.R_far (p := ⟨gb142, 1, none⟩) (Kd.R_far (p := ⟨gb142, 0, none⟩) (Kd.R_far (p := ⟨gb148, 2, none⟩) (Kd.R_far (p := ⟨gb148, 1, none⟩) (Kd.R_types (Kd.R_types HO_149000.out BK148.out (by decide)) BK142.out (by decide)) (fun _ hk => hk.1.2) (.int .i64 a0_1)) (fun _ hk => hk.1.2) (.int .i64 2)) (fun _ hk => hk.2) (.slice Ao14 t143.length co14)) (fun _ hk => hk.2) (.int .i64 a0_1)) (fun _ hk => hk.2) (.int .i64 2)) (fun _ hk => trivial), zB3_4⟩
   subst c50
   have H1 : (if 0 ≤ a1_2 then (if a1_2 < (l0_0.length : Int) then (if 0 ≤ a1_3 then (if a1_3 < (l0_0.length : Int) then (spec_Work.j1 kj4 a2 (-1) (rd l0_0 a1_2) (rd l0_0 a1_3) a1_0 l0_0 a0_1 a0_2 a1_0 a1_1 a1_2 a1_3 a1_4 t143 t151 t147) else (none)) else (none)) else (none)) else (none)) = some (r1, r2, r3, r4) := by rw [if_pos rfl] at H; exact H
   clear H
   have H := H1
   clear H1
   by_cases c51 : 0 ≤ a1_2
   rotate_left
   ·rw [if_neg c51] at H
    exact absurd H (by simp)
   rw [if_pos c51] at H
   have c51b0 : decide (0 ≤ a1_2) = true := decide_eq_true c51
   clear c51
   by_cases c52 : a1_2 < (l0_0.length : Int)
   rotate_left
   ·rw [if_neg c52] at H
    exact absurd H (by simp)
   rw [if_pos c52] at H
   have c52b0 : decide (a1_2 < (l0_0.length : Int)) = true := decide_eq_true c52
   clear c52
   by_cases c53 : 0 ≤ a1_3
   rotate_left
   ·rw [if_neg c53] at H
    exact absurd H (by simp)
   rw [if_pos c53] at H
   have c53b0 : decide (0 ≤ a1_3) = true := decide_eq_true c53
   clear c53
   by_cases c54 : a1_3 < (l0_0.length : Int)
   rotate_left
   ·rw [if_neg c54] at H
    exact absurd H (by simp)
   rw [if_pos c54] at H
   have c54b0 : decide (a1_3 < (l0_0.length : Int)) = true := decide_eq_true c54
   clear c54
   have HC55 := Aside0.mk H
   clear H
   have hnb56 := NB140_141.out
   have hnc56 := NB141_140.out
   have hnb57 := NB140_142.out
   have hnc57 := NB142_140.out
   have hnb58 := NB140_148.out
   have hnc58 := NB148_140.out
   obtain ⟨hcz59_0, hcz59_1, hcz59_2, hfz59_0, hfz59_1, hfz59_2⟩ := zc3_3 (w := wc) BK140.out
   try go_wp2_with (first | ((with_reducible refine gate_callee (f := 89) rfl ?_); refine goesL_ (some 31) rfl rfl Try.func89 (by kernel_rfl) rfl #[.int .i64 (wrap64 (a0_1 + 1))] rfl zT3 ?_; (with_reducible refine (spec_l9Address.calls (wrap64 (a0_1 + 1)) t151 _ A48.out).mono ?_); rintro e w' ⟨rfl, ⟨nd, rfl⟩⟩; refine ⟨_, rfl, ?_⟩; (try (rw [drewN_self wc]; generalize hq_ : World.drewN wc _ = wc; have n0_ : Aside0 (Kd.R (Kd.int .i64) 3 wc w.heap.size (fun _ => True) (.slice Ao14 t143.length co14) t143) := ⟨by rw [← hq_]; exact (zR3 HO_149000.out)⟩; have n1_ : Aside0 (wc.heap[gb140]? = some (.cells #[.slice A0_0 l0_0.length c0_0, .int .i64 a0_1, .int .i64 a0_2] 49 (0, 0))) := ⟨by rw [← hq_]; exact (zK3 BK140.out)⟩; have n2_ : Aside0 (wc.heap[gb141]? = some (.cells #[.int .i64 a1_0, .int .i64 a1_1, .int .i64 a1_2, .int .i64 a1_3, .int .i64 a1_4] 71 (0, 0))) := ⟨by rw [← hq_]; exact (zK3 BK141.out)⟩; have n3_ : Aside0 (wc.heap[gb142]? = some (.cells #[.slice none 0 0, .int .i64 0, .int .i64 0] 49 (0, 0))) := ⟨by rw [← hq_]; exact (zK3 BK142.out)⟩; have n4_ : Aside0 (wc.heap[gb148]? = some (.cells #[.slice Ao14 t143.length co14, .int .i64 t146, .int .i64 t147] 49 (0, 0))) := ⟨by rw [← hq_]; exact (zK3 BK148.out)⟩; have n5_ : Aside0 (Below w.heap.size w wc) := ⟨by rw [← hq_]; exact (zB3_4)⟩; clear HO_149000 BK140 BK141 BK142 BK148 HB hq_; have HO_149000 := n0_; have BK140 := n1_; have BK141 := n2_; have BK142 := n3_; have BK148 := n4_; have HB := n5_; clear n0_ n1_ n2_ n3_ n4_ n5_)); have hnb60 := NB148_141.out; have hnc60 := NB141_148.out; have hnb61 := NB148_142.out; have hnc61 := NB142_148.out; obtain ⟨hcz62_0, hcz62_1, hcz62_2, hfz62_0, hfz62_1, hfz62_2⟩ := zc3_3 (w := wc) BK148.out; have hnb63 := NB141_142.out; have hnc63 := NB142_141.out; obtain ⟨hcz64_0, hcz64_1, hcz64_2, hcz64_3, hcz64_4, hfz64_0, hfz64_1, hfz64_2, hfz64_3, hfz64_4⟩ := zc3_5 (w := wc) BK141.out) | ((with_reducible refine gate_callee (f := 88) rfl ?_); refine goesL_ (some 34) rfl rfl Try.func88 (by kernel_rfl) rfl #[.agg #[.int .i64 a1_0, .int .i64 a1_1, .int .i64 a1_2, .int .i64 a1_3, .int .i64 a1_4]] rfl zT3 ?_; (with_reducible refine (spec_InsOk.calls a1_0 a1_1 a1_2 a1_3 a1_4 true _ A49.out).mono ?_); rintro e w65 ⟨rfl, hb⟩; refine ⟨_, rfl, ?_⟩; have n0_ := Aside0.mk (Kd.R_below (by (with_reducible repeat (first | apply Kd.R_alloc | apply Kd.R_drewN | apply Kd.R_drew)); exact (Kd.R_mono (Kd.R_far (p := ⟨gb148, 1, none⟩) (Kd.R_types HO_149000.out BK148.out (by decide)) (fun _ hk => hk.2) (.int .i64 t151)) (fun _ h_ => h_.1))) hb); have n1_ := Aside0.mk (blk_below (g := gb140) (o := .cells #[.slice A0_0 l0_0.length c0_0, .int .i64 a0_1, .int .i64 a0_2] 49 (0, 0)) (by refine zP3 ?_; refine blk_far ?_ NB140_148.out _; refine zP3 ?_; exact BK140.out) hb); have n2_ := Aside0.mk (blk_below (g := gb141) (o := .cells #[.int .i64 a1_0, .int .i64 a1_1, .int .i64 a1_2, .int .i64 a1_3, .int .i64 a1_4] 71 (0, 0)) (by refine zP3 ?_; refine blk_far ?_ NB141_148.out _; refine zP3 ?_; exact BK141.out) hb); have n3_ := Aside0.mk (blk_below (g := gb142) (o := .cells #[.slice none 0 0, .int .i64 0, .int .i64 0] 49 (0, 0)) (by refine zP3 ?_; refine blk_far ?_ NB142_148.out _; refine zP3 ?_; exact BK142.out) hb); have n4_ := Aside0.mk (blk_below (g := gb148) (o := .cells #[.slice Ao14 t143.length co14, .int .i64 t151, .int .i64 t147] 49 (0, 0)) (by refine zP3 ?_; refine blk_put (cs := #[.slice Ao14 t143.length co14, .int .i64 t146, .int .i64 t147]) ?_ 1 _ rfl; refine zP3 ?_; exact BK148.out) hb); have n5_ := Aside0.mk (below_step (zB3_4) hb); clear HO_149000; clear BK140; clear BK141; clear BK142; clear BK148; clear HB; have HO_149000 := n0_; have BK140 := n1_; have BK141 := n2_; have BK142 := n3_; have BK148 := n4_; have HB := n5_; clear n0_ n1_ n2_ n3_ n4_ n5_; (try clear hb); (try clear hb2); (try clear hk); (try clear hi)))
   have n0_ := Aside0.mk (Kd.R_drew HO_149000.out)
   have n1_ := Aside0.mk (blk_drew BK140.out)
   have n2_ := Aside0.mk (blk_drew BK141.out)
   have n3_ := Aside0.mk (blk_drew BK142.out)
   have n4_ := Aside0.mk (blk_drew BK148.out)
   have n5_ := Aside0.mk (below_drew1 HB.out)
   clear HO_149000 BK140 BK141 BK142 BK148 HB
   have HO_149000 := n0_
   have BK140 := n1_
   have BK141 := n2_
   have BK142 := n3_
   have BK148 := n4_
   have HB := n5_
   clear n0_ n1_ n2_ n3_ n4_ n5_
   have p153 : 0 ≤ (a1_2 : Int) := zA3
   have q153 : a1_2 < (l0_0.length : Int) := zA3
   obtain ⟨ad153, e153, hx153_0⟩ := Kd.at_int HR0_0.out a1_2 p153 q153
   have hw153_0 := hx153_0
   cases e153
   replace hx153_0 := (HB.out.cell (World.block_lt_of_cell? w _ hx153_0)).trans hx153_0
   replace p153 := eq_true p153
   replace q153 := eq_true q153
   have p154 : 0 ≤ (a1_3 : Int) := zA3
   have q154 : a1_3 < (l0_0.length : Int) := zA3
   obtain ⟨ad154, e154, hx154_0⟩ := Kd.at_int HR0_0.out a1_3 p154 q154
   have hw154_0 := hx154_0
   obtain rfl : ad153 = ad154 := (by injection e154)
   replace hx154_0 := (HB.out.cell (World.block_lt_of_cell? w _ hx154_0)).trans hx154_0
   replace p154 := eq_true p154
   replace q154 := eq_true q154
   refine start_ (n := 14) (S := fun w' => w'.cell? ⟨gb140, 0, none⟩ = some (.slice (some ad153) l0_0.length c0_0) ∧ w'.cell? ⟨gb140, 1, none⟩ = some (.int .i64 a0_1) ∧ w'.cell? ⟨gb140, 2, none⟩ = some (.int .i64 a0_2) ∧ w'.cell? ⟨gb141, 0, none⟩ = some (.int .i64 a1_0) ∧ w'.cell? ⟨gb141, 1, none⟩ = some (.int .i64 a1_1) ∧ w'.cell? ⟨gb141, 2, none⟩ = some (.int .i64 a1_2) ∧ w'.cell? ⟨gb141, 3, none⟩ = some (.int .i64 a1_3) ∧ w'.cell? ⟨gb141, 4, none⟩ = some (.int .i64 a1_4) ∧ w'.cell? (ad153.add (a1_2).toNat) = some (.int .i64 (rd l0_0 a1_2)) ∧ w'.cell? (ad153.add (a1_3).toNat) = some (.int .i64 (rd l0_0 a1_3))) (ds := []) #[false, false, false, false, false, false, false, false, false, false, false, false, false, false] (by kernel_rfl) rfl rfl ⟨(blk_cell BK140.out 0).trans rfl, (blk_cell BK140.out 1).trans rfl, (blk_cell BK140.out 2).trans rfl, (blk_cell BK141.out 0).trans rfl, (blk_cell BK141.out 1).trans rfl, (blk_cell BK141.out 2).trans rfl, (blk_cell BK141.out 3).trans rfl, (blk_cell BK141.out 4).trans rfl, ((HB.out.cell (World.block_lt_of_cell? w _ hw153_0)).trans hw153_0), ((HB.out.cell (World.block_lt_of_cell? w _ hw154_0)).trans hw154_0)⟩ (fun hHeld => ?_); refine with_tabW spec_Work.tab10 spec_Work.bits10 (fun HT_ HW_ => ?_)
   generalize w65.drew = w66 at HO_149000 BK140 BK141 BK142 BK148 HB hx153_0 hx154_0 hHeld ⊢
   refine pure_ (i := 0) (N := some 41) (v := ?_) (a' := ?_) #[true, false, false, false, false, false, false, false, false, false, false, false, false, false] rfl rfl (any_of HT_.out (by kernel_rfl)) (fun _ _ _ h => h) (Or.inl ⟨by rfl, ?_⟩) ?_ ?_
   rotate_left
   ·intro w'
    go_simp
    with_reducible rfl
   rotate_left
   ·exact zV3
   refine pure_ (i := 2) (N := some 43) (v := ?_) (a' := ?_) #[true, false, true, false, false, false, false, false, false, false, false, false, false, false] rfl rfl (any_of HT_.out (by kernel_rfl)) (fun _ _ _ h => h) (Or.inl ⟨by rfl, ?_⟩) ?_ ?_
   rotate_left
   ·intro w'
    go_simp
    with_reducible rfl
   rotate_left
   ·exact zV3
   refine pure_ (i := 6) (N := some 47) (v := ?_) (a' := ?_) #[true, false, true, false, false, false, true, false, false, false, false, false, false, false] rfl rfl (any_of HT_.out (by kernel_rfl)) (fun _ _ _ h => h) (Or.inl ⟨by rfl, ?_⟩) ?_ ?_
   rotate_left
   ·intro w'
    go_simp
    with_reducible rfl
   rotate_left
   ·exact zV3
   refine pure_ (i := 8) (N := some 49) (v := ?_) (a' := ?_) #[true, false, true, false, false, false, true, false, true, false, false, false, false, false] rfl rfl (any_of HT_.out (by kernel_rfl)) (fun _ _ _ h => h) (Or.inl ⟨by rfl, ?_⟩) ?_ ?_
   rotate_left
   ·intro w'
    go_simp
    with_reducible rfl
   rotate_left
   ·exact zV3
   refine take_ (i := 1) (N := some 42) (v := ?_) (a' := ?_) #[true, true, true, false, false, false, true, false, true, false, false, false, false, false] rfl rfl (take_ofW HT_.out HW_.out (by kernel_rfl)) (fun _ _ _ h => h) (Or.inl ⟨by rfl, ?_⟩) hHeld ?_ ?_
   rotate_left
   ·rintro w' ⟨s0, s1, s2, s3, s4, s5, s6, s7, s8, s9⟩
    go_simp
    with_reducible rfl
   rotate_left
   ·exact zV3
   refine take_ (i := 3) (N := some 44) (v := ?_) (a' := ?_) #[true, true, true, true, false, false, true, false, true, false, false, false, false, false] rfl rfl (take_ofW HT_.out HW_.out (by kernel_rfl)) (fun _ _ _ h => h) (Or.inl ⟨by rfl, ?_⟩) hHeld ?_ ?_
   rotate_left
   ·rintro w' ⟨s0, s1, s2, s3, s4, s5, s6, s7, s8, s9⟩
    go_simp
    with_reducible rfl
   rotate_left
   ·exact zV3
   refine pure_ (i := 4) (N := some 45) (v := ?_) (a' := ?_) #[true, true, true, true, true, false, true, false, true, false, false, false, false, false] rfl rfl (any_of HT_.out (by kernel_rfl)) (fun _ _ _ h => h) (Or.inl ⟨by rfl, ?_⟩) ?_ ?_
   rotate_left
   ·intro w'
    go_simp
    with_reducible rfl
   rotate_left
   ·exact zV3
   refine take_ (i := 5) (N := some 46) (v := ?_) (a' := ?_) #[true, true, true, true, true, true, true, false, true, false, false, false, false, false] rfl rfl (take_ofW HT_.out HW_.out (by kernel_rfl)) (fun _ _ _ h => h) (Or.inl ⟨by rfl, ?_⟩) hHeld ?_ ?_
   rotate_left
   ·rintro w' ⟨s0, s1, s2, s3, s4, s5, s6, s7, s8, s9⟩
    go_simp
    with_reducible rfl
   rotate_left
   ·exact zV3
   refine pure_ (i := 12) (N := some 10) (v := ?_) (a' := ?_) #[true, true, true, true, true, true, true, false, true, false, false, false, true, false] rfl rfl (any_of HT_.out (by kernel_rfl)) (fun _ _ _ h => h) (Or.inl ⟨by rfl, ?_⟩) ?_ ?_
   rotate_left
   ·intro w'
    go_simp
    with_reducible rfl
   rotate_left
   ·exact zV3
   refine take_ (i := 7) (N := some 48) (v := ?_) (a' := ?_) #[true, true, true, true, true, true, true, true, true, false, false, false, true, false] rfl rfl (take_ofW HT_.out HW_.out (by kernel_rfl)) (fun _ _ _ h => h) (Or.inl ⟨by rfl, ?_⟩) hHeld ?_ ?_
   rotate_left
   ·rintro w' ⟨s0, s1, s2, s3, s4, s5, s6, s7, s8, s9⟩
    go_simp
    with_reducible rfl
   rotate_left
   ·exact zV3
   refine take_ (i := 9) (N := some 50) (v := ?_) (a' := ?_) #[true, true, true, true, true, true, true, true, true, true, false, false, true, false] rfl rfl (take_ofW HT_.out HW_.out (by kernel_rfl)) (fun _ _ _ h => h) (Or.inl ⟨by rfl, ?_⟩) hHeld ?_ ?_
   rotate_left
   ·rintro w' ⟨s0, s1, s2, s3, s4, s5, s6, s7, s8, s9⟩
    go_simp
    with_reducible rfl
   rotate_left
   ·exact zV3
   refine pure_ (i := 10) (N := some 51) (v := ?_) (a' := ?_) #[true, true, true, true, true, true, true, true, true, true, true, false, true, false] rfl rfl (any_of HT_.out (by kernel_rfl)) (fun _ _ _ h => h) (Or.inl ⟨by rfl, ?_⟩) ?_ ?_
   rotate_left
   ·intro w'
    go_simp
    with_reducible rfl
   rotate_left
   ·exact zV3
   refine take_ (i := 11) (N := some 52) (v := ?_) (a' := ?_) #[true, true, true, true, true, true, true, true, true, true, true, true, true, false] rfl rfl (take_ofW HT_.out HW_.out (by kernel_rfl)) (fun _ _ _ h => h) (Or.inl ⟨by rfl, ?_⟩) hHeld ?_ ?_
   rotate_left
   ·rintro w' ⟨s0, s1, s2, s3, s4, s5, s6, s7, s8, s9⟩
    go_simp
    with_reducible rfl
   rotate_left
   ·exact zV3
   refine pure_ (i := 13) (N := some 11) (v := ?_) (a' := ?_) #[true, true, true, true, true, true, true, true, true, true, true, true, true, true] rfl rfl (any_of HT_.out (by kernel_rfl)) (fun _ _ _ h => h) (Or.inl ⟨by rfl, ?_⟩) ?_ ?_
   rotate_left
   ·intro w'
    go_simp
    with_reducible rfl
   rotate_left
   ·exact zV3
   refine done_ (done_of HT_.out (by kernel_rfl)) ?_
   go_upto_region 11 with (fail)
   go_cut [54] (fun v54 wc => ∃ (kq : Nat) (x54_54 : Int), v54 = .int .i64 x54_54 ∧ Aside0 (spec_Work.j1 kq a2 (-1) (rd l0_0 a1_2) (rd l0_0 a1_3) x54_54 l0_0 a0_1 a0_2 a1_0 a1_1 a1_2 a1_3 a1_4 t143 t151 t147 = some (r1, r2, r3, r4)) ∧ Aside0 (kq ≤ kj4) ∧ Aside0 (Kd.R (Kd.int .i64) 3 wc w.heap.size (fun _ => True) (.slice Ao14 t143.length co14) t143) ∧ Aside0 (wc.heap[gb140]? = some (.cells #[(.slice (some ad153) l0_0.length c0_0), .int .i64 a0_1, .int .i64 a0_2] 49 (0, 0))) ∧ Aside0 (wc.heap[gb141]? = some (.cells #[.int .i64 a1_0, .int .i64 a1_1, .int .i64 a1_2, .int .i64 a1_3, .int .i64 a1_4] 71 (0, 0))) ∧ Aside0 (wc.heap[gb142]? = some (.cells #[(.slice none 0 0), .int .i64 0, .int .i64 0] 49 (0, 0))) ∧ Aside0 (wc.heap[gb148]? = some (.cells #[(.slice Ao14 t143.length co14), .int .i64 t151, .int .i64 t147] 49 (0, 0))) ∧ Aside0 (Below w.heap.size w wc))
   case first =>
    have H := HC55.out
    clear HC55
    have H' := Aside0.mk H
    clear H
    have hnb67 := NB141_140.out
    have hnc67 := NB140_141.out
    have hnb68 := NB141_142.out
    have hnc68 := NB142_141.out
    have hnb69 := NB141_148.out
    have hnc69 := NB148_141.out
    obtain ⟨hcz70_0, hcz70_1, hcz70_2, hcz70_3, hcz70_4, hfz70_0, hfz70_1, hfz70_2, hfz70_3, hfz70_4⟩ := zc3_5 (w := w66) BK141.out
    go_wp2
    go_meet
    case rel => exact ⟨_, (a1_0), (by first | rfl | (simp; done) | (simp [*]; done)), H', ⟨by have := HJ4.out; first | omega | exact Nat.le_refl _⟩, ⟨zR3 HO_149000.out⟩, ⟨zK3 BK140.out⟩, ⟨zK3 BK141.out⟩, ⟨zK3 BK142.out⟩, ⟨zK3 BK148.out⟩, ⟨zB3_4⟩⟩
   case rest =>
    clear HC55
    try clear c1
    try clear p1
    try clear q1
    try clear hx1
    try clear c2
    try clear p2
    try clear c3
    try clear c4
    try clear c5
    try clear c6
    try clear p6
    try clear c7
    try clear c8
    try clear c9
    try clear c10
    try clear c15
    try clear p15
    try clear q15
    try clear hx15
    try clear c16
    try clear c17
    try clear c20
    try clear c21
    try clear c21b0
    try clear c21b1
    try clear c23
    try clear c24
    try clear c25
    try clear c29
    try clear c30
    try clear c31
    try clear c35
    try clear c36
    try clear c37
    try clear c40
    try clear c41
    try clear c42
    try clear c43
    try clear c45
    try clear c46
    try clear c50
    try clear c51
    try clear c51b0
    try clear c52
    try clear c52b0
    try clear c53
    try clear c53b0
    try clear c54
    try clear c54b0
    try clear c56
    try clear c57
    try clear c58
    try clear c60
    try clear c61
    try clear c63
    try clear p64
    try clear c67
    try clear c68
    try clear c69
    try clear hcz11_0
    try clear hcz11_1
    try clear hcz11_2
    try clear hcz18_0
    try clear hcz18_1
    try clear hcz18_2
    try clear hcz26_0
    try clear hcz26_1
    try clear hcz26_2
    try clear hcz28_0
    try clear hcz28_1
    try clear hcz28_2
    try clear hcz32_0
    try clear hcz32_1
    try clear hcz32_2
    try clear hcz34_0
    try clear hcz34_1
    try clear hcz34_2
    try clear hcz38_0
    try clear hcz38_1
    try clear hcz38_2
    try clear hcz44_0
    try clear hcz44_1
    try clear hcz44_2
    try clear hcz47_0
    try clear hcz47_1
    try clear hcz47_2
    try clear hcz59_0
    try clear hcz59_1
    try clear hcz59_2
    try clear hcz62_0
    try clear hcz62_1
    try clear hcz62_2
    try clear hcz64_0
    try clear hcz64_1
    try clear hcz64_2
    try clear hcz64_3
    try clear hcz64_4
    try clear hcz70_0
    try clear hcz70_1
    try clear hcz70_2
    try clear hcz70_3
    try clear hcz70_4
    try clear hfz11_0
    try clear hfz11_1
    try clear hfz11_2
    try clear hfz18_0
    try clear hfz18_1
    try clear hfz18_2
    try clear hfz26_0
    try clear hfz26_1
    try clear hfz26_2
    try clear hfz28_0
    try clear hfz28_1
    try clear hfz28_2
    try clear hfz32_0
    try clear hfz32_1
    try clear hfz32_2
    try clear hfz34_0
    try clear hfz34_1
    try clear hfz34_2
    try clear hfz38_0
    try clear hfz38_1
    try clear hfz38_2
    try clear hfz44_0
    try clear hfz44_1
    try clear hfz44_2
    try clear hfz47_0
    try clear hfz47_1
    try clear hfz47_2
    try clear hfz59_0
    try clear hfz59_1
    try clear hfz59_2
    try clear hfz62_0
    try clear hfz62_1
    try clear hfz62_2
    try clear hfz64_0
    try clear hfz64_1
    try clear hfz64_2
    try clear hfz64_3
    try clear hfz64_4
    try clear hfz70_0
    try clear hfz70_1
    try clear hfz70_2
    try clear hfz70_3
    try clear hfz70_4
    try clear hx153_0
    try clear hx154_0
    try clear p153
    try clear p154
    try clear p2
    try clear q153
    try clear q154
    obtain ⟨kq, x54_54, rfl, HA, HJ54, HO_149000, BK140, BK141, BK142, BK148, HB⟩ := hcut
    cases kq with
    | zero => exact absurd HA.out (by simp [spec_Work.j1])
    | succ kj54 =>
     have H := HA.out
     clear HA
     simp only [spec_Work.j1] at H
     have HC71 := Aside0.mk H
     clear H
     go_upto_block 0 with (fail)
     go_cut [9] (fun v9 wc => ∃ (kq : Nat) (x9_70 : Int) (x149000_70 : List Int) (x149001_70 : Int) (x149002_70 : Int) (u149000 : Value), v9 = .int .i64 x9_70 ∧ Aside0 (spec_Work.j2 kq x9_70 x149000_70 x149001_70 x149002_70 = some (r1, r2, r3, r4)) ∧ Aside0 (kq ≤ kj54) ∧ Aside0 (Kd.R (Kd.int .i64) 3 wc w.heap.size (fun _ => True) u149000 x149000_70) ∧ Aside0 (wc.heap[gb140]? = some (.cells #[(.slice (some ad153) l0_0.length c0_0), .int .i64 a0_1, .int .i64 a0_2] 49 (0, 0))) ∧ Aside0 (wc.heap[gb141]? = some (.cells #[.int .i64 a1_0, .int .i64 a1_1, .int .i64 a1_2, .int .i64 a1_3, .int .i64 a1_4] 71 (0, 0))) ∧ Aside0 (wc.heap[gb142]? = some (.cells #[(.slice none 0 0), .int .i64 0, .int .i64 0] 49 (0, 0))) ∧ Aside0 (wc.heap[gb148]? = some (.cells #[u149000, .int .i64 x149001_70, .int .i64 x149002_70] 49 (0, 0))) ∧ Aside0 (Below w.heap.size w wc))
     case first =>
      have H := HC71.out
      clear HC71
      by_cases c72 : x54_54 = 1
      ·rw [if_pos c72] at H
       have c72b0 : (x54_54 == 1) = true := beq_iff_eq.mpr c72
       have c72b1 : (x54_54 != 1) = false := bne_eq_false_iff_eq.mpr c72
       clear c72
       (first | rw [c72b0] | (simp only [i64_w, i32_w]; rw [c72b0]) | skip)
       by_cases c73 : 0 ≤ a1_1
       rotate_left
       ·rw [if_neg c73] at H
        exact absurd H (by simp)
       rw [if_pos c73] at H
       have c73b0 : decide (0 ≤ a1_1) = true := decide_eq_true c73
       clear c73
       by_cases c74 : a1_1 < (t143.length : Int)
       rotate_left
       ·rw [if_neg c74] at H
        exact absurd H (by simp)
       rw [if_pos c74] at H
       have c74b0 : decide (a1_1 < (t143.length : Int)) = true := decide_eq_true c74
       clear c74
       obtain ⟨y155, hy155⟩ : ∃ y_ : List Int, y_ = (t143.set (a1_1 : Int).toNat a1_4) := ⟨_, rfl⟩
       replace H : (spec_Work.j2 kj54 (-1) y155 t151 t147) = some (r1, r2, r3, r4) := by first | (rw [hy155]; with_reducible exact H) | (have H2_ := (Option.bind_some _ _).symm.trans H; rw [hy155]; with_reducible exact H2_) | (have H2_ := (Option.bind_some _ _).symm.trans H; with_reducible exact H2_) | with_reducible exact H | (rw [hy155]; exact H) | exact H
       have Ny155 := Aside0.mk hy155
       clear hy155
       have H' := Aside0.mk H
       clear H
       have hnb76 := NB148_140.out
       have hnc76 := NB140_148.out
       have hnb77 := NB148_141.out
       have hnc77 := NB141_148.out
       have hnb78 := NB148_142.out
       have hnc78 := NB142_148.out
       obtain ⟨hcz79_0, hcz79_1, hcz79_2, hfz79_0, hfz79_1, hfz79_2⟩ := zc3_3 (w := wc) BK148.out
       have hnb80 := NB141_140.out
       have hnc80 := NB140_141.out
       have hnb81 := NB141_142.out
       have hnc81 := NB142_141.out
       obtain ⟨hcz82_0, hcz82_1, hcz82_2, hcz82_3, hcz82_4, hfz82_0, hfz82_1, hfz82_2, hfz82_3, hfz82_4⟩ := zc3_5 (w := wc) BK141.out
       have p75 : 0 ≤ (a1_1 : Int) := zA3
       have q75 : (a1_1 : Int) < ((t143.length : Int) : Int) := zA3
       obtain ⟨go75, co75, eo75, gb75, gl75, cl75, HG75⟩ := Kd.R_form HO_149000.out (by omega)
       (first | cases eo75 | (injection eo75 with ea_ en_ ec_; (first | subst ea_ | (injection ea_ with ea_; subst ea_)); subst ec_; clear en_))
       have GB75 := Aside0.mk gb75
       have GG75 := Aside0.mk HG75
       clear gb75 gl75 HG75
       obtain ⟨hx75_0, hf75_0⟩ := Kd.R_celln 0 HO_149000.out (a1_1 : Int) p75 q75
       replace p75 := eq_true p75
       replace q75 := eq_true q75
       have HP83 := Kd.R_putg HO_149000.out (a1_1 : Int) a1_4
       go_wp2_with (first | ((with_reducible refine gate_store (t := 3) (p := 63) rfl ?_); refine store_event (t := 3) (p := 63) (v := ?vo_w84) (w1 := (wc.setCell ⟨go75, (a1_1 : Int).toNat, none⟩ (.int .i64 a1_4))) ?hg ?ho ?hn ?hr ?_; (case ho => rfl); (case hg => rfl); (case hn => rfl); (case hr => first | (go_simp; done) | (go_simp; rfl)); intro w84 hw; have hg : wc.grownBy w84 (some go75) := (by rw [hw]; exact HP83.2); have hp_ : Kd.R (Kd.int .i64) 3 w84 w.heap.size (fun _ => True) (.slice (some ⟨go75, 0, none⟩) t143.length co14) y155 := (by rw [hw, Ny155.out]; exact HP83.1); clear HP83; have n0_ := Aside0.mk (hp_); have n1_ := Aside0.mk (zg3 BK140.out hg (Kd.R_ne HO_149000.out BK140.out (by decide))); have n2_ := Aside0.mk (zg3 BK141.out hg (Kd.R_ne HO_149000.out BK141.out (by decide))); have n3_ := Aside0.mk (zg3 BK142.out hg (Kd.R_ne HO_149000.out BK142.out (by decide))); have n4_ := Aside0.mk (zg3 BK148.out hg (Kd.R_ne HO_149000.out BK148.out (by decide))); have n5_ := Aside0.mk ((by rw [hw]; exact below_set (HB.out) GB75.out : Below w.heap.size w w84)); clear HO_149000; clear BK140; clear BK141; clear BK142; clear BK148; clear HB; have HO_149000 := n0_; have BK140 := n1_; have BK141 := n2_; have BK142 := n3_; have BK148 := n4_; have HB := n5_; clear n0_ n1_ n2_ n3_ n4_ n5_; clear hg hw hp_))
       go_meet
       case rel => exact ⟨_, ((-1)), (y155), (t151), (t147), (.slice (some ⟨go75, 0, none⟩) t143.length co14), (by first | rfl | (simp; done) | (simp [*]; done)), H', ⟨by have := HJ4.out; have := HJ54.out; first | omega | exact Nat.le_refl _⟩, ⟨zR3 HO_149000.out⟩, ⟨zK3 BK140.out⟩, ⟨zK3 BK141.out⟩, ⟨zK3 BK142.out⟩, ⟨zK3 BK148.out⟩, ⟨zB3_4⟩⟩
      rw [if_neg c72] at H
      have c72b0 : (x54_54 == 1) = false := beq_eq_false_iff_ne.mpr c72
      have c72b1 : (x54_54 != 1) = true := bne_iff_ne.mpr c72
      (first | rw [c72b0] | (simp only [i64_w, i32_w]; rw [c72b0]) | skip)
      by_cases c85 : x54_54 = 2
      ·rw [if_pos c85] at H
       have c85b0 : (x54_54 == 2) = true := beq_iff_eq.mpr c85
       have c85b1 : (x54_54 != 2) = false := bne_eq_false_iff_eq.mpr c85
       clear c85
       replace H := Option.bind_eq_some_iff.mp H
       obtain ⟨t156, A860, H⟩ := H
       replace H : (if 0 ≤ a1_1 then (if a1_1 < (t143.length : Int) then (spec_Work.j2 kj54 (-1) (t143.set (a1_1 : Int).toNat t156) t151 t147) else (none)) else (none)) = some (r1, r2, r3, r4) := H
       have A86 := Aside0.mk A860
       clear A860
       by_cases c87 : 0 ≤ a1_1
       rotate_left
       ·rw [if_neg c87] at H
        exact absurd H (by simp)
       rw [if_pos c87] at H
       have c87b0 : decide (0 ≤ a1_1) = true := decide_eq_true c87
       clear c87
       by_cases c88 : a1_1 < (t143.length : Int)
       rotate_left
       ·rw [if_neg c88] at H
        exact absurd H (by simp)
       rw [if_pos c88] at H
       have c88b0 : decide (a1_1 < (t143.length : Int)) = true := decide_eq_true c88
       clear c88
       obtain ⟨y157, hy157⟩ : ∃ y_ : List Int, y_ = (t143.set (a1_1 : Int).toNat t156) := ⟨_, rfl⟩
       replace H : (spec_Work.j2 kj54 (-1) y157 t151 t147) = some (r1, r2, r3, r4) := by first | (rw [hy157]; with_reducible exact H) | (have H2_ := (Option.bind_some _ _).symm.trans H; rw [hy157]; with_reducible exact H2_) | (have H2_ := (Option.bind_some _ _).symm.trans H; with_reducible exact H2_) | with_reducible exact H | (rw [hy157]; exact H) | exact H
       have Ny157 := Aside0.mk hy157
       clear hy157
       have H' := Aside0.mk H
       clear H
       try go_wp2
       have n0_ := Aside0.mk (Kd.R_drew HO_149000.out)
       have n1_ := Aside0.mk (blk_drew BK140.out)
       have n2_ := Aside0.mk (blk_drew BK141.out)
       have n3_ := Aside0.mk (blk_drew BK142.out)
       have n4_ := Aside0.mk (blk_drew BK148.out)
       have n5_ := Aside0.mk (below_drew1 HB.out)
       clear HO_149000 BK140 BK141 BK142 BK148 HB
       have HO_149000 := n0_
       have BK140 := n1_
       have BK141 := n2_
       have BK142 := n3_
       have BK148 := n4_
       have HB := n5_
       clear n0_ n1_ n2_ n3_ n4_ n5_
       refine start_ (n := 10) (S := fun w' => w'.cell? ⟨gb148, 0, none⟩ = some (.slice Ao14 t143.length co14) ∧ w'.cell? ⟨gb148, 1, none⟩ = some (.int .i64 t151) ∧ w'.cell? ⟨gb148, 2, none⟩ = some (.int .i64 t147) ∧ w'.cell? ⟨gb141, 0, none⟩ = some (.int .i64 a1_0) ∧ w'.cell? ⟨gb141, 1, none⟩ = some (.int .i64 a1_1) ∧ w'.cell? ⟨gb141, 2, none⟩ = some (.int .i64 a1_2) ∧ w'.cell? ⟨gb141, 3, none⟩ = some (.int .i64 a1_3) ∧ w'.cell? ⟨gb141, 4, none⟩ = some (.int .i64 a1_4)) (ds := [9]) zq3_0 (by kernel_rfl) rfl rfl ⟨(blk_cell BK148.out 0).trans rfl, (blk_cell BK148.out 1).trans rfl, (blk_cell BK148.out 2).trans rfl, (blk_cell BK141.out 0).trans rfl, (blk_cell BK141.out 1).trans rfl, (blk_cell BK141.out 2).trans rfl, (blk_cell BK141.out 3).trans rfl, (blk_cell BK141.out 4).trans rfl⟩ (fun hHeld => ?_); refine with_tabW spec_Work.tab15 spec_Work.bits15 (fun HT_ HW_ => ?_)
       generalize wc.drew = w90 at HO_149000 BK140 BK141 BK142 BK148 HB hHeld ⊢
       refine pure_ (i := 0) (N := some 66) (v := ?_) (a' := ?_) zq3_1 rfl rfl (any_of HT_.out (by kernel_rfl)) (fun _ _ _ h => h) (Or.inl ⟨by rfl, ?_⟩) ?_ ?_
       rotate_left
       ·intro w'
        go_simp
        with_reducible rfl
       rotate_left
       ·exact zV3
       refine pure_ (i := 2) (N := some 68) (v := ?_) (a' := ?_) zq3_2 rfl rfl (any_of HT_.out (by kernel_rfl)) (fun _ _ _ h => h) (Or.inl ⟨by rfl, ?_⟩) ?_ ?_
       rotate_left
       ·intro w'
        go_simp
        with_reducible rfl
       rotate_left
       ·exact zV3
       refine pure_ (i := 4) (N := some 70) (v := ?_) (a' := ?_) zq3_3 rfl rfl (any_of HT_.out (by kernel_rfl)) (fun _ _ _ h => h) (Or.inl ⟨by rfl, ?_⟩) ?_ ?_
       rotate_left
       ·intro w'
        go_simp
        with_reducible rfl
       rotate_left
       ·exact zV3
       refine pure_ (i := 5) (N := some 71) (v := ?_) (a' := ?_) zq3_4 rfl rfl (any_of HT_.out (by kernel_rfl)) (fun _ _ _ h => h) (Or.inl ⟨by rfl, ?_⟩) ?_ ?_
       rotate_left
       ·intro w'
        go_simp
        with_reducible rfl
       rotate_left
       ·exact zV3
       refine pure_ (i := 6) (N := some 72) (v := ?_) (a' := ?_) zq3_5 rfl rfl (any_of HT_.out (by kernel_rfl)) (fun _ _ _ h => h) (Or.inl ⟨by rfl, ?_⟩) ?_ ?_
       rotate_left
       ·intro w'
        go_simp
        with_reducible rfl
       rotate_left
       ·exact zV3
       refine take_ (i := 1) (N := some 67) (v := ?_) (a' := ?_) zq3_6 rfl rfl (take_ofW HT_.out HW_.out (by kernel_rfl)) (fun _ _ _ h => h) (Or.inl ⟨by rfl, ?_⟩) hHeld ?_ ?_
       rotate_left
       ·rintro w' ⟨s0, s1, s2, s3, s4, s5, s6, s7⟩
        go_simp
        with_reducible rfl
       rotate_left
       ·exact zV3
       refine take_ (i := 3) (N := some 69) (v := ?_) (a' := ?_) zq3_7 rfl rfl (take_ofW HT_.out HW_.out (by kernel_rfl)) (fun _ _ _ h => h) (Or.inl ⟨by rfl, ?_⟩) hHeld ?_ ?_
       rotate_left
       ·rintro w' ⟨s0, s1, s2, s3, s4, s5, s6, s7⟩
        go_simp
        with_reducible rfl
       rotate_left
       ·exact zV3
       refine one_ (i := 7) (N := some 73) zq3_8 rfl rfl (one_of HT_.out (by kernel_rfl)) (by decide) (fun K hK => ?_)
       refine goes_ Try.func90 (by kernel_rfl) rfl #[.int .i64 (wrap64 ((rd l0_0 a1_2) + (rd l0_0 a1_3)))] (by rfl) rfl rfl zT3 ?_
       with_reducible refine (spec_l9Word.calls (wrap64 ((rd l0_0 a1_2) + (rd l0_0 a1_3))) t156 _ A86.out).mono ?_
       rintro e w' ⟨rfl, ⟨nd, rfl⟩⟩
       refine ⟨_, rfl, ?_⟩
       (try (rw [drewN_self w90]; generalize hq_ : World.drewN w90 _ = w90; have n0_ : Aside0 (Kd.R (Kd.int .i64) 3 w90 w.heap.size (fun _ => True) (.slice Ao14 t143.length co14) t143) := ⟨by rw [← hq_]; exact (zR3 HO_149000.out)⟩; have n1_ : Aside0 (w90.heap[gb140]? = some (.cells #[.slice (some ad153) l0_0.length c0_0, .int .i64 a0_1, .int .i64 a0_2] 49 (0, 0))) := ⟨by rw [← hq_]; exact (zK3 BK140.out)⟩; have n2_ : Aside0 (w90.heap[gb141]? = some (.cells #[.int .i64 a1_0, .int .i64 a1_1, .int .i64 a1_2, .int .i64 a1_3, .int .i64 a1_4] 71 (0, 0))) := ⟨by rw [← hq_]; exact (zK3 BK141.out)⟩; have n3_ : Aside0 (w90.heap[gb142]? = some (.cells #[.slice none 0 0, .int .i64 0, .int .i64 0] 49 (0, 0))) := ⟨by rw [← hq_]; exact (zK3 BK142.out)⟩; have n4_ : Aside0 (w90.heap[gb148]? = some (.cells #[.slice Ao14 t143.length co14, .int .i64 t151, .int .i64 t147] 49 (0, 0))) := ⟨by rw [← hq_]; exact (zK3 BK148.out)⟩; have n5_ : Aside0 (Below w.heap.size w w90) := ⟨by rw [← hq_]; exact (zB3_4)⟩; clear HO_149000 BK140 BK141 BK142 BK148 HB hq_; have HO_149000 := n0_; have BK140 := n1_; have BK141 := n2_; have BK142 := n3_; have BK148 := n4_; have HB := n5_; clear n0_ n1_ n2_ n3_ n4_ n5_))
       have p89 : 0 ≤ (a1_1 : Int) := zA3
       have q89 : (a1_1 : Int) < ((t143.length : Int) : Int) := zA3
       obtain ⟨go89, co89, eo89, gb89, gl89, cl89, HG89⟩ := Kd.R_form HO_149000.out (by omega)
       (first | cases eo89 | (injection eo89 with ea_ en_ ec_; (first | subst ea_ | (injection ea_ with ea_; subst ea_)); subst ec_; clear en_))
       have GB89 := Aside0.mk gb89
       have GG89 := Aside0.mk HG89
       clear gb89 gl89 HG89
       obtain ⟨hx89_0, hf89_0⟩ := Kd.R_celln 0 HO_149000.out (a1_1 : Int) p89 q89
       replace p89 := eq_true p89
       replace q89 := eq_true q89
       have HP91 := Kd.R_putn HO_149000.out (a1_1 : Int) t156
       rw [← Ny157.out] at HP91
       have HQ91 := Aside0.mk HP91
       clear HP91
       refine hK.out _ _ ⟨(blk_cell BK148.out 0).trans rfl, (blk_cell BK148.out 1).trans rfl, (blk_cell BK148.out 2).trans rfl, (blk_cell BK141.out 0).trans rfl, (blk_cell BK141.out 1).trans rfl, (blk_cell BK141.out 2).trans rfl, (blk_cell BK141.out 3).trans rfl, (blk_cell BK141.out 4).trans rfl⟩ (fun hHeld => ?_)
       clear hK K
       refine norm_ (a' := ?_) ?_ ?_
       rotate_left
       ·show Act.put _ (some 73) _ = _
        simp only [Act.put, List.setIfInBounds_toArray, List.set_cons_zero, List.set_cons_succ, i64_w, i32_w]
        rfl
       refine pure_ (i := 8) (N := some 74) (v := ?_) (a' := ?_) zq3_9 rfl rfl (any_of HT_.out (by kernel_rfl)) (fun _ _ _ h => h) (Or.inl ⟨by rfl, ?_⟩) ?_ ?_
       rotate_left
       ·intro w'
        go_simp
        with_reducible rfl
       rotate_left
       ·exact zV3
       refine last_ (i := 9) (N := none) zq3_10 rfl rfl (one_of HT_.out (by kernel_rfl)) (by decide) (fun K hK => ?_)
       refine skip_ (w1 := ?_) (by rfl) rfl ?_ ?_
       rotate_left
       ·go_simp
        rfl
       refine hK.out _ _ ?_
       clear hK K
       refine done_ (done_of HT_.out (by kernel_rfl)) ?_
       try go_wp2
       go_meet
       case rel => exact ⟨_, ((-1)), (y157), (t151), (t147), (.slice (some ⟨go89, 0, none⟩) t143.length co14), (by first | rfl | (simp; done) | (simp [*]; done)), H', ⟨by have := HJ4.out; have := HJ54.out; first | omega | exact Nat.le_refl _⟩, ⟨zR3 HQ91.out⟩, ⟨by refine zP3 ?_; refine blk_far ?_ (by have h_ := Kd.R_ne HO_149000.out BK140.out (by decide); intro e_; exact h_ (by rw [e_]; rfl)) _; refine zP3 ?_; exact BK140.out⟩, ⟨by refine zP3 ?_; refine blk_far ?_ (by have h_ := Kd.R_ne HO_149000.out BK141.out (by decide); intro e_; exact h_ (by rw [e_]; rfl)) _; refine zP3 ?_; exact BK141.out⟩, ⟨by refine zP3 ?_; refine blk_far ?_ (by have h_ := Kd.R_ne HO_149000.out BK142.out (by decide); intro e_; exact h_ (by rw [e_]; rfl)) _; refine zP3 ?_; exact BK142.out⟩, ⟨by refine zP3 ?_; refine blk_far ?_ (by have h_ := Kd.R_ne HO_149000.out BK148.out (by decide); intro e_; exact h_ (by rw [e_]; rfl)) _; refine zP3 ?_; exact BK148.out⟩, ⟨zB3_5⟩⟩
      rw [if_neg c85] at H
      have c85b0 : (x54_54 == 2) = false := beq_eq_false_iff_ne.mpr c85
      have c85b1 : (x54_54 != 2) = true := bne_iff_ne.mpr c85
      by_cases c92 : x54_54 = 10
      ·rw [if_pos c92] at H
       have c92b0 : (x54_54 == 10) = true := beq_iff_eq.mpr c92
       have c92b1 : (x54_54 != 10) = false := bne_eq_false_iff_eq.mpr c92
       clear c92
       replace H := Option.bind_eq_some_iff.mp H
       obtain ⟨t158, A930, H⟩ := H
       replace H : (if 0 ≤ a1_1 then (if a1_1 < (t143.length : Int) then (spec_Work.j2 kj54 (-1) (t143.set (a1_1 : Int).toNat t158) t151 t147) else (none)) else (none)) = some (r1, r2, r3, r4) := H
       have A93 := Aside0.mk A930
       clear A930
       by_cases c94 : 0 ≤ a1_1
       rotate_left
       ·rw [if_neg c94] at H
        exact absurd H (by simp)
       rw [if_pos c94] at H
       have c94b0 : decide (0 ≤ a1_1) = true := decide_eq_true c94
       clear c94
       by_cases c95 : a1_1 < (t143.length : Int)
       rotate_left
       ·rw [if_neg c95] at H
        exact absurd H (by simp)
       rw [if_pos c95] at H
       have c95b0 : decide (a1_1 < (t143.length : Int)) = true := decide_eq_true c95
       clear c95
       obtain ⟨y159, hy159⟩ : ∃ y_ : List Int, y_ = (t143.set (a1_1 : Int).toNat t158) := ⟨_, rfl⟩
       replace H : (spec_Work.j2 kj54 (-1) y159 t151 t147) = some (r1, r2, r3, r4) := by first | (rw [hy159]; with_reducible exact H) | (have H2_ := (Option.bind_some _ _).symm.trans H; rw [hy159]; with_reducible exact H2_) | (have H2_ := (Option.bind_some _ _).symm.trans H; with_reducible exact H2_) | with_reducible exact H | (rw [hy159]; exact H) | exact H
       have Ny159 := Aside0.mk hy159
       clear hy159
       have H' := Aside0.mk H
       clear H
       try go_wp2
       have n0_ := Aside0.mk (Kd.R_drew HO_149000.out)
       have n1_ := Aside0.mk (blk_drew BK140.out)
       have n2_ := Aside0.mk (blk_drew BK141.out)
       have n3_ := Aside0.mk (blk_drew BK142.out)
       have n4_ := Aside0.mk (blk_drew BK148.out)
       have n5_ := Aside0.mk (below_drew1 HB.out)
       clear HO_149000 BK140 BK141 BK142 BK148 HB
       have HO_149000 := n0_
       have BK140 := n1_
       have BK141 := n2_
       have BK142 := n3_
       have BK148 := n4_
       have HB := n5_
       clear n0_ n1_ n2_ n3_ n4_ n5_
       refine start_ (n := 10) (S := fun w' => w'.cell? ⟨gb148, 0, none⟩ = some (.slice Ao14 t143.length co14) ∧ w'.cell? ⟨gb148, 1, none⟩ = some (.int .i64 t151) ∧ w'.cell? ⟨gb148, 2, none⟩ = some (.int .i64 t147) ∧ w'.cell? ⟨gb141, 0, none⟩ = some (.int .i64 a1_0) ∧ w'.cell? ⟨gb141, 1, none⟩ = some (.int .i64 a1_1) ∧ w'.cell? ⟨gb141, 2, none⟩ = some (.int .i64 a1_2) ∧ w'.cell? ⟨gb141, 3, none⟩ = some (.int .i64 a1_3) ∧ w'.cell? ⟨gb141, 4, none⟩ = some (.int .i64 a1_4)) (ds := [9]) zq3_0 (by kernel_rfl) rfl rfl ⟨(blk_cell BK148.out 0).trans rfl, (blk_cell BK148.out 1).trans rfl, (blk_cell BK148.out 2).trans rfl, (blk_cell BK141.out 0).trans rfl, (blk_cell BK141.out 1).trans rfl, (blk_cell BK141.out 2).trans rfl, (blk_cell BK141.out 3).trans rfl, (blk_cell BK141.out 4).trans rfl⟩ (fun hHeld => ?_); refine with_tabW spec_Work.tab17 spec_Work.bits17 (fun HT_ HW_ => ?_)
       generalize wc.drew = w97 at HO_149000 BK140 BK141 BK142 BK148 HB hHeld ⊢
       refine pure_ (i := 0) (N := some 77) (v := ?_) (a' := ?_) zq3_1 rfl rfl (any_of HT_.out (by kernel_rfl)) (fun _ _ _ h => h) (Or.inl ⟨by rfl, ?_⟩) ?_ ?_
       rotate_left
       ·intro w'
        go_simp
        with_reducible rfl
       rotate_left
       ·exact zV3
       refine pure_ (i := 2) (N := some 79) (v := ?_) (a' := ?_) zq3_2 rfl rfl (any_of HT_.out (by kernel_rfl)) (fun _ _ _ h => h) (Or.inl ⟨by rfl, ?_⟩) ?_ ?_
       rotate_left
       ·intro w'
        go_simp
        with_reducible rfl
       rotate_left
       ·exact zV3
       refine pure_ (i := 4) (N := some 81) (v := ?_) (a' := ?_) zq3_3 rfl rfl (any_of HT_.out (by kernel_rfl)) (fun _ _ _ h => h) (Or.inl ⟨by rfl, ?_⟩) ?_ ?_
       rotate_left
       ·intro w'
        go_simp
        with_reducible rfl
       rotate_left
       ·exact zV3
       refine pure_ (i := 5) (N := some 82) (v := ?_) (a' := ?_) zq3_4 rfl rfl (any_of HT_.out (by kernel_rfl)) (fun _ _ _ h => h) (Or.inl ⟨by rfl, ?_⟩) ?_ ?_
       rotate_left
       ·intro w'
        go_simp
        with_reducible rfl
       rotate_left
       ·exact zV3
       refine pure_ (i := 6) (N := some 83) (v := ?_) (a' := ?_) zq3_5 rfl rfl (any_of HT_.out (by kernel_rfl)) (fun _ _ _ h => h) (Or.inl ⟨by rfl, ?_⟩) ?_ ?_
       rotate_left
       ·intro w'
        go_simp
        with_reducible rfl
       rotate_left
       ·exact zV3
       refine take_ (i := 1) (N := some 78) (v := ?_) (a' := ?_) zq3_6 rfl rfl (take_ofW HT_.out HW_.out (by kernel_rfl)) (fun _ _ _ h => h) (Or.inl ⟨by rfl, ?_⟩) hHeld ?_ ?_
       rotate_left
       ·rintro w' ⟨s0, s1, s2, s3, s4, s5, s6, s7⟩
        go_simp
        with_reducible rfl
       rotate_left
       ·exact zV3
       refine take_ (i := 3) (N := some 80) (v := ?_) (a' := ?_) zq3_7 rfl rfl (take_ofW HT_.out HW_.out (by kernel_rfl)) (fun _ _ _ h => h) (Or.inl ⟨by rfl, ?_⟩) hHeld ?_ ?_
       rotate_left
       ·rintro w' ⟨s0, s1, s2, s3, s4, s5, s6, s7⟩
        go_simp
        with_reducible rfl
       rotate_left
       ·exact zV3
       refine one_ (i := 7) (N := some 84) zq3_8 rfl rfl (one_of HT_.out (by kernel_rfl)) (by decide) (fun K hK => ?_)
       refine goes_ Try.func90 (by kernel_rfl) rfl #[.int .i64 (wrap64 ((rd l0_0 a1_2) - (rd l0_0 a1_3)))] (by rfl) rfl rfl zT3 ?_
       with_reducible refine (spec_l9Word.calls (wrap64 ((rd l0_0 a1_2) - (rd l0_0 a1_3))) t158 _ A93.out).mono ?_
       rintro e w' ⟨rfl, ⟨nd, rfl⟩⟩
       refine ⟨_, rfl, ?_⟩
       (try (rw [drewN_self w97]; generalize hq_ : World.drewN w97 _ = w97; have n0_ : Aside0 (Kd.R (Kd.int .i64) 3 w97 w.heap.size (fun _ => True) (.slice Ao14 t143.length co14) t143) := ⟨by rw [← hq_]; exact (zR3 HO_149000.out)⟩; have n1_ : Aside0 (w97.heap[gb140]? = some (.cells #[.slice (some ad153) l0_0.length c0_0, .int .i64 a0_1, .int .i64 a0_2] 49 (0, 0))) := ⟨by rw [← hq_]; exact (zK3 BK140.out)⟩; have n2_ : Aside0 (w97.heap[gb141]? = some (.cells #[.int .i64 a1_0, .int .i64 a1_1, .int .i64 a1_2, .int .i64 a1_3, .int .i64 a1_4] 71 (0, 0))) := ⟨by rw [← hq_]; exact (zK3 BK141.out)⟩; have n3_ : Aside0 (w97.heap[gb142]? = some (.cells #[.slice none 0 0, .int .i64 0, .int .i64 0] 49 (0, 0))) := ⟨by rw [← hq_]; exact (zK3 BK142.out)⟩; have n4_ : Aside0 (w97.heap[gb148]? = some (.cells #[.slice Ao14 t143.length co14, .int .i64 t151, .int .i64 t147] 49 (0, 0))) := ⟨by rw [← hq_]; exact (zK3 BK148.out)⟩; have n5_ : Aside0 (Below w.heap.size w w97) := ⟨by rw [← hq_]; exact (zB3_4)⟩; clear HO_149000 BK140 BK141 BK142 BK148 HB hq_; have HO_149000 := n0_; have BK140 := n1_; have BK141 := n2_; have BK142 := n3_; have BK148 := n4_; have HB := n5_; clear n0_ n1_ n2_ n3_ n4_ n5_))
       have p96 : 0 ≤ (a1_1 : Int) := zA3
       have q96 : (a1_1 : Int) < ((t143.length : Int) : Int) := zA3
       obtain ⟨go96, co96, eo96, gb96, gl96, cl96, HG96⟩ := Kd.R_form HO_149000.out (by omega)
       (first | cases eo96 | (injection eo96 with ea_ en_ ec_; (first | subst ea_ | (injection ea_ with ea_; subst ea_)); subst ec_; clear en_))
       have GB96 := Aside0.mk gb96
       have GG96 := Aside0.mk HG96
       clear gb96 gl96 HG96
       obtain ⟨hx96_0, hf96_0⟩ := Kd.R_celln 0 HO_149000.out (a1_1 : Int) p96 q96
       replace p96 := eq_true p96
       replace q96 := eq_true q96
       have HP98 := Kd.R_putn HO_149000.out (a1_1 : Int) t158
       rw [← Ny159.out] at HP98
       have HQ98 := Aside0.mk HP98
       clear HP98
       refine hK.out _ _ ⟨(blk_cell BK148.out 0).trans rfl, (blk_cell BK148.out 1).trans rfl, (blk_cell BK148.out 2).trans rfl, (blk_cell BK141.out 0).trans rfl, (blk_cell BK141.out 1).trans rfl, (blk_cell BK141.out 2).trans rfl, (blk_cell BK141.out 3).trans rfl, (blk_cell BK141.out 4).trans rfl⟩ (fun hHeld => ?_)
       clear hK K
       refine norm_ (a' := ?_) ?_ ?_
       rotate_left
       ·show Act.put _ (some 84) _ = _
        simp only [Act.put, List.setIfInBounds_toArray, List.set_cons_zero, List.set_cons_succ, i64_w, i32_w]
        rfl
       refine pure_ (i := 8) (N := some 85) (v := ?_) (a' := ?_) zq3_9 rfl rfl (any_of HT_.out (by kernel_rfl)) (fun _ _ _ h => h) (Or.inl ⟨by rfl, ?_⟩) ?_ ?_
       rotate_left
       ·intro w'
        go_simp
        with_reducible rfl
       rotate_left
       ·exact zV3
       refine last_ (i := 9) (N := none) zq3_10 rfl rfl (one_of HT_.out (by kernel_rfl)) (by decide) (fun K hK => ?_)
       refine skip_ (w1 := ?_) (by rfl) rfl ?_ ?_
       rotate_left
       ·go_simp
        rfl
       refine hK.out _ _ ?_
       clear hK K
       refine done_ (done_of HT_.out (by kernel_rfl)) ?_
       try go_wp2
       go_meet
       case rel => exact ⟨_, ((-1)), (y159), (t151), (t147), (.slice (some ⟨go96, 0, none⟩) t143.length co14), (by first | rfl | (simp; done) | (simp [*]; done)), H', ⟨by have := HJ4.out; have := HJ54.out; first | omega | exact Nat.le_refl _⟩, ⟨zR3 HQ98.out⟩, ⟨by refine zP3 ?_; refine blk_far ?_ (by have h_ := Kd.R_ne HO_149000.out BK140.out (by decide); intro e_; exact h_ (by rw [e_]; rfl)) _; refine zP3 ?_; exact BK140.out⟩, ⟨by refine zP3 ?_; refine blk_far ?_ (by have h_ := Kd.R_ne HO_149000.out BK141.out (by decide); intro e_; exact h_ (by rw [e_]; rfl)) _; refine zP3 ?_; exact BK141.out⟩, ⟨by refine zP3 ?_; refine blk_far ?_ (by have h_ := Kd.R_ne HO_149000.out BK142.out (by decide); intro e_; exact h_ (by rw [e_]; rfl)) _; refine zP3 ?_; exact BK142.out⟩, ⟨by refine zP3 ?_; refine blk_far ?_ (by have h_ := Kd.R_ne HO_149000.out BK148.out (by decide); intro e_; exact h_ (by rw [e_]; rfl)) _; refine zP3 ?_; exact BK148.out⟩, ⟨zB3_6⟩⟩
      rw [if_neg c92] at H
      have c92b0 : (x54_54 == 10) = false := beq_eq_false_iff_ne.mpr c92
      have c92b1 : (x54_54 != 10) = true := bne_iff_ne.mpr c92
      by_cases c99 : x54_54 = 3
      ·rw [if_pos c99] at H
       have c99b0 : (x54_54 == 3) = true := beq_iff_eq.mpr c99
       have c99b1 : (x54_54 != 3) = false := bne_eq_false_iff_eq.mpr c99
       clear c99
       replace H := Option.bind_eq_some_iff.mp H
       obtain ⟨t160, A1000, H⟩ := H
       replace H : (if 0 ≤ a1_1 then (if a1_1 < (t143.length : Int) then (spec_Work.j2 kj54 (-1) (t143.set (a1_1 : Int).toNat t160) t151 t147) else (none)) else (none)) = some (r1, r2, r3, r4) := H
       have A100 := Aside0.mk A1000
       clear A1000
       by_cases c101 : 0 ≤ a1_1
       rotate_left
       ·rw [if_neg c101] at H
        exact absurd H (by simp)
       rw [if_pos c101] at H
       have c101b0 : decide (0 ≤ a1_1) = true := decide_eq_true c101
       clear c101
       by_cases c102 : a1_1 < (t143.length : Int)
       rotate_left
       ·rw [if_neg c102] at H
        exact absurd H (by simp)
       rw [if_pos c102] at H
       have c102b0 : decide (a1_1 < (t143.length : Int)) = true := decide_eq_true c102
       clear c102
       obtain ⟨y161, hy161⟩ : ∃ y_ : List Int, y_ = (t143.set (a1_1 : Int).toNat t160) := ⟨_, rfl⟩
       replace H : (spec_Work.j2 kj54 (-1) y161 t151 t147) = some (r1, r2, r3, r4) := by first | (rw [hy161]; with_reducible exact H) | (have H2_ := (Option.bind_some _ _).symm.trans H; rw [hy161]; with_reducible exact H2_) | (have H2_ := (Option.bind_some _ _).symm.trans H; with_reducible exact H2_) | with_reducible exact H | (rw [hy161]; exact H) | exact H
       have Ny161 := Aside0.mk hy161
       clear hy161
       have H' := Aside0.mk H
       clear H
       try go_wp2
       have n0_ := Aside0.mk (Kd.R_drew HO_149000.out)
       have n1_ := Aside0.mk (blk_drew BK140.out)
       have n2_ := Aside0.mk (blk_drew BK141.out)
       have n3_ := Aside0.mk (blk_drew BK142.out)
       have n4_ := Aside0.mk (blk_drew BK148.out)
       have n5_ := Aside0.mk (below_drew1 HB.out)
       clear HO_149000 BK140 BK141 BK142 BK148 HB
       have HO_149000 := n0_
       have BK140 := n1_
       have BK141 := n2_
       have BK142 := n3_
       have BK148 := n4_
       have HB := n5_
       clear n0_ n1_ n2_ n3_ n4_ n5_
       refine start_ (n := 11) (S := fun w' => w'.cell? ⟨gb148, 0, none⟩ = some (.slice Ao14 t143.length co14) ∧ w'.cell? ⟨gb148, 1, none⟩ = some (.int .i64 t151) ∧ w'.cell? ⟨gb148, 2, none⟩ = some (.int .i64 t147) ∧ w'.cell? ⟨gb141, 0, none⟩ = some (.int .i64 a1_0) ∧ w'.cell? ⟨gb141, 1, none⟩ = some (.int .i64 a1_1) ∧ w'.cell? ⟨gb141, 2, none⟩ = some (.int .i64 a1_2) ∧ w'.cell? ⟨gb141, 3, none⟩ = some (.int .i64 a1_3) ∧ w'.cell? ⟨gb141, 4, none⟩ = some (.int .i64 a1_4)) (ds := [10]) #[false, false, false, false, false, false, false, false, false, false, false] (by kernel_rfl) rfl rfl ⟨(blk_cell BK148.out 0).trans rfl, (blk_cell BK148.out 1).trans rfl, (blk_cell BK148.out 2).trans rfl, (blk_cell BK141.out 0).trans rfl, (blk_cell BK141.out 1).trans rfl, (blk_cell BK141.out 2).trans rfl, (blk_cell BK141.out 3).trans rfl, (blk_cell BK141.out 4).trans rfl⟩ (fun hHeld => ?_); refine with_tabW spec_Work.tab19 spec_Work.bits19 (fun HT_ HW_ => ?_)
       generalize wc.drew = w104 at HO_149000 BK140 BK141 BK142 BK148 HB hHeld ⊢
       refine pure_ (i := 0) (N := some 88) (v := ?_) (a' := ?_) #[true, false, false, false, false, false, false, false, false, false, false] rfl rfl (any_of HT_.out (by kernel_rfl)) (fun _ _ _ h => h) (Or.inl ⟨by rfl, ?_⟩) ?_ ?_
       rotate_left
       ·intro w'
        go_simp
        with_reducible rfl
       rotate_left
       ·exact zV3
       refine pure_ (i := 2) (N := some 90) (v := ?_) (a' := ?_) #[true, false, true, false, false, false, false, false, false, false, false] rfl rfl (any_of HT_.out (by kernel_rfl)) (fun _ _ _ h => h) (Or.inl ⟨by rfl, ?_⟩) ?_ ?_
       rotate_left
       ·intro w'
        go_simp
        with_reducible rfl
       rotate_left
       ·exact zV3
       refine pure_ (i := 4) (N := some 92) (v := ?_) (a' := ?_) #[true, false, true, false, true, false, false, false, false, false, false] rfl rfl (any_of HT_.out (by kernel_rfl)) (fun _ _ _ h => h) (Or.inl ⟨by rfl, ?_⟩) ?_ ?_
       rotate_left
       ·intro w'
        go_simp
        with_reducible rfl
       rotate_left
       ·exact zV3
       refine pure_ (i := 5) (N := some 93) (v := ?_) (a' := ?_) #[true, false, true, false, true, true, false, false, false, false, false] rfl rfl (any_of HT_.out (by kernel_rfl)) (fun _ _ _ h => h) (Or.inl ⟨by rfl, ?_⟩) ?_ ?_
       rotate_left
       ·intro w'
        go_simp
        with_reducible rfl
       rotate_left
       ·exact zV3
       refine take_ (i := 1) (N := some 89) (v := ?_) (a' := ?_) #[true, true, true, false, true, true, false, false, false, false, false] rfl rfl (take_ofW HT_.out HW_.out (by kernel_rfl)) (fun _ _ _ h => h) (Or.inl ⟨by rfl, ?_⟩) hHeld ?_ ?_
       rotate_left
       ·rintro w' ⟨s0, s1, s2, s3, s4, s5, s6, s7⟩
        go_simp
        with_reducible rfl
       rotate_left
       ·exact zV3
       refine take_ (i := 3) (N := some 91) (v := ?_) (a' := ?_) #[true, true, true, true, true, true, false, false, false, false, false] rfl rfl (take_ofW HT_.out HW_.out (by kernel_rfl)) (fun _ _ _ h => h) (Or.inl ⟨by rfl, ?_⟩) hHeld ?_ ?_
       rotate_left
       ·rintro w' ⟨s0, s1, s2, s3, s4, s5, s6, s7⟩
        go_simp
        with_reducible rfl
       rotate_left
       ·exact zV3
       refine take_ (i := 6) (N := some 94) (v := ?_) (a' := ?_) #[true, true, true, true, true, true, true, false, false, false, false] rfl rfl (take_ofW HT_.out HW_.out (by kernel_rfl)) (fun _ _ _ h => h) (Or.inl ⟨by rfl, ?_⟩) hHeld ?_ ?_
       rotate_left
       ·rintro w' ⟨s0, s1, s2, s3, s4, s5, s6, s7⟩
        go_simp
        with_reducible rfl
       rotate_left
       ·exact zV3
       refine pure_ (i := 7) (N := some 95) (v := ?_) (a' := ?_) #[true, true, true, true, true, true, true, true, false, false, false] rfl rfl (any_of HT_.out (by kernel_rfl)) (fun _ _ _ h => h) (Or.inl ⟨by rfl, ?_⟩) ?_ ?_
       rotate_left
       ·intro w'
        go_simp
        with_reducible rfl
       rotate_left
       ·exact zV3
       refine one_ (i := 8) (N := some 96) #[true, true, true, true, true, true, true, true, true, false, false] rfl rfl (one_of HT_.out (by kernel_rfl)) (by decide) (fun K hK => ?_)
       refine goes_ Try.func90 (by kernel_rfl) rfl #[.int .i64 (wrap64 ((rd l0_0 a1_2) + a1_4))] (by rfl) rfl rfl zT3 ?_
       with_reducible refine (spec_l9Word.calls (wrap64 ((rd l0_0 a1_2) + a1_4)) t160 _ A100.out).mono ?_
       rintro e w' ⟨rfl, ⟨nd, rfl⟩⟩
       refine ⟨_, rfl, ?_⟩
       (try (rw [drewN_self w104]; generalize hq_ : World.drewN w104 _ = w104; have n0_ : Aside0 (Kd.R (Kd.int .i64) 3 w104 w.heap.size (fun _ => True) (.slice Ao14 t143.length co14) t143) := ⟨by rw [← hq_]; exact (zR3 HO_149000.out)⟩; have n1_ : Aside0 (w104.heap[gb140]? = some (.cells #[.slice (some ad153) l0_0.length c0_0, .int .i64 a0_1, .int .i64 a0_2] 49 (0, 0))) := ⟨by rw [← hq_]; exact (zK3 BK140.out)⟩; have n2_ : Aside0 (w104.heap[gb141]? = some (.cells #[.int .i64 a1_0, .int .i64 a1_1, .int .i64 a1_2, .int .i64 a1_3, .int .i64 a1_4] 71 (0, 0))) := ⟨by rw [← hq_]; exact (zK3 BK141.out)⟩; have n3_ : Aside0 (w104.heap[gb142]? = some (.cells #[.slice none 0 0, .int .i64 0, .int .i64 0] 49 (0, 0))) := ⟨by rw [← hq_]; exact (zK3 BK142.out)⟩; have n4_ : Aside0 (w104.heap[gb148]? = some (.cells #[.slice Ao14 t143.length co14, .int .i64 t151, .int .i64 t147] 49 (0, 0))) := ⟨by rw [← hq_]; exact (zK3 BK148.out)⟩; have n5_ : Aside0 (Below w.heap.size w w104) := ⟨by rw [← hq_]; exact (zB3_4)⟩; clear HO_149000 BK140 BK141 BK142 BK148 HB hq_; have HO_149000 := n0_; have BK140 := n1_; have BK141 := n2_; have BK142 := n3_; have BK148 := n4_; have HB := n5_; clear n0_ n1_ n2_ n3_ n4_ n5_))
       have p103 : 0 ≤ (a1_1 : Int) := zA3
       have q103 : (a1_1 : Int) < ((t143.length : Int) : Int) := zA3
       obtain ⟨go103, co103, eo103, gb103, gl103, cl103, HG103⟩ := Kd.R_form HO_149000.out (by omega)
       (first | cases eo103 | (injection eo103 with ea_ en_ ec_; (first | subst ea_ | (injection ea_ with ea_; subst ea_)); subst ec_; clear en_))
       have GB103 := Aside0.mk gb103
       have GG103 := Aside0.mk HG103
       clear gb103 gl103 HG103
       obtain ⟨hx103_0, hf103_0⟩ := Kd.R_celln 0 HO_149000.out (a1_1 : Int) p103 q103
       replace p103 := eq_true p103
       replace q103 := eq_true q103
       have HP105 := Kd.R_putn HO_149000.out (a1_1 : Int) t160
       rw [← Ny161.out] at HP105
       have HQ105 := Aside0.mk HP105
       clear HP105
       refine hK.out _ _ ⟨(blk_cell BK148.out 0).trans rfl, (blk_cell BK148.out 1).trans rfl, (blk_cell BK148.out 2).trans rfl, (blk_cell BK141.out 0).trans rfl, (blk_cell BK141.out 1).trans rfl, (blk_cell BK141.out 2).trans rfl, (blk_cell BK141.out 3).trans rfl, (blk_cell BK141.out 4).trans rfl⟩ (fun hHeld => ?_)
       clear hK K
       refine norm_ (a' := ?_) ?_ ?_
       rotate_left
       ·show Act.put _ (some 96) _ = _
        simp only [Act.put, List.setIfInBounds_toArray, List.set_cons_zero, List.set_cons_succ, i64_w, i32_w]
        rfl
       refine pure_ (i := 9) (N := some 97) (v := ?_) (a' := ?_) #[true, true, true, true, true, true, true, true, true, true, false] rfl rfl (any_of HT_.out (by kernel_rfl)) (fun _ _ _ h => h) (Or.inl ⟨by rfl, ?_⟩) ?_ ?_
       rotate_left
       ·intro w'
        go_simp
        with_reducible rfl
       rotate_left
       ·exact zV3
       refine last_ (i := 10) (N := none) #[true, true, true, true, true, true, true, true, true, true, true] rfl rfl (one_of HT_.out (by kernel_rfl)) (by decide) (fun K hK => ?_)
       refine skip_ (w1 := ?_) (by rfl) rfl ?_ ?_
       rotate_left
       ·go_simp
        rfl
       refine hK.out _ _ ?_
       clear hK K
       refine done_ (done_of HT_.out (by kernel_rfl)) ?_
       try go_wp2
       go_meet
       case rel => exact ⟨_, ((-1)), (y161), (t151), (t147), (.slice (some ⟨go103, 0, none⟩) t143.length co14), (by first | rfl | (simp; done) | (simp [*]; done)), H', ⟨by have := HJ4.out; have := HJ54.out; first | omega | exact Nat.le_refl _⟩, ⟨zR3 HQ105.out⟩, ⟨by refine zP3 ?_; refine blk_far ?_ (by have h_ := Kd.R_ne HO_149000.out BK140.out (by decide); intro e_; exact h_ (by rw [e_]; rfl)) _; refine zP3 ?_; exact BK140.out⟩, ⟨by refine zP3 ?_; refine blk_far ?_ (by have h_ := Kd.R_ne HO_149000.out BK141.out (by decide); intro e_; exact h_ (by rw [e_]; rfl)) _; refine zP3 ?_; exact BK141.out⟩, ⟨by refine zP3 ?_; refine blk_far ?_ (by have h_ := Kd.R_ne HO_149000.out BK142.out (by decide); intro e_; exact h_ (by rw [e_]; rfl)) _; refine zP3 ?_; exact BK142.out⟩, ⟨by refine zP3 ?_; refine blk_far ?_ (by have h_ := Kd.R_ne HO_149000.out BK148.out (by decide); intro e_; exact h_ (by rw [e_]; rfl)) _; refine zP3 ?_; exact BK148.out⟩, ⟨zB3_7⟩⟩
      rw [if_neg c99] at H
      have c99b0 : (x54_54 == 3) = false := beq_eq_false_iff_ne.mpr c99
      have c99b1 : (x54_54 != 3) = true := bne_iff_ne.mpr c99
      by_cases c106 : x54_54 = 4
      ·rw [if_pos c106] at H
       have c106b0 : (x54_54 == 4) = true := beq_iff_eq.mpr c106
       have c106b1 : (x54_54 != 4) = false := bne_eq_false_iff_eq.mpr c106
       clear c106
       by_cases c107 : 0 ≤ a1_1
       rotate_left
       ·rw [if_neg c107] at H
        exact absurd H (by simp)
       rw [if_pos c107] at H
       have c107b0 : decide (0 ≤ a1_1) = true := decide_eq_true c107
       clear c107
       by_cases c108 : a1_1 < (t143.length : Int)
       rotate_left
       ·rw [if_neg c108] at H
        exact absurd H (by simp)
       rw [if_pos c108] at H
       have c108b0 : decide (a1_1 < (t143.length : Int)) = true := decide_eq_true c108
       clear c108
       obtain ⟨y162, hy162⟩ : ∃ y_ : List Int, y_ = (t143.set (a1_1 : Int).toNat a2) := ⟨_, rfl⟩
       replace H : (spec_Work.j2 kj54 (-1) y162 t151 t147) = some (r1, r2, r3, r4) := by first | (rw [hy162]; with_reducible exact H) | (have H2_ := (Option.bind_some _ _).symm.trans H; rw [hy162]; with_reducible exact H2_) | (have H2_ := (Option.bind_some _ _).symm.trans H; with_reducible exact H2_) | with_reducible exact H | (rw [hy162]; exact H) | exact H
       have Ny162 := Aside0.mk hy162
       clear hy162
       have H' := Aside0.mk H
       clear H
       have hnb110 := NB148_140.out
       have hnc110 := NB140_148.out
       have hnb111 := NB148_141.out
       have hnc111 := NB141_148.out
       have hnb112 := NB148_142.out
       have hnc112 := NB142_148.out
       obtain ⟨hcz113_0, hcz113_1, hcz113_2, hfz113_0, hfz113_1, hfz113_2⟩ := zc3_3 (w := wc) BK148.out
       have hnb114 := NB141_140.out
       have hnc114 := NB140_141.out
       have hnb115 := NB141_142.out
       have hnc115 := NB142_141.out
       obtain ⟨hcz116_0, hcz116_1, hcz116_2, hcz116_3, hcz116_4, hfz116_0, hfz116_1, hfz116_2, hfz116_3, hfz116_4⟩ := zc3_5 (w := wc) BK141.out
       have p109 : 0 ≤ (a1_1 : Int) := zA3
       have q109 : (a1_1 : Int) < ((t143.length : Int) : Int) := zA3
       obtain ⟨go109, co109, eo109, gb109, gl109, cl109, HG109⟩ := Kd.R_form HO_149000.out (by omega)
       (first | cases eo109 | (injection eo109 with ea_ en_ ec_; (first | subst ea_ | (injection ea_ with ea_; subst ea_)); subst ec_; clear en_))
       have GB109 := Aside0.mk gb109
       have GG109 := Aside0.mk HG109
       clear gb109 gl109 HG109
       obtain ⟨hx109_0, hf109_0⟩ := Kd.R_celln 0 HO_149000.out (a1_1 : Int) p109 q109
       replace p109 := eq_true p109
       replace q109 := eq_true q109
       have HP117 := Kd.R_putg HO_149000.out (a1_1 : Int) a2
       go_wp2_with (first | ((with_reducible refine gate_store (t := 3) (p := 105) rfl ?_); refine store_event (t := 3) (p := 105) (v := ?vo_w118) (w1 := (wc.setCell ⟨go109, (a1_1 : Int).toNat, none⟩ (.int .i64 a2))) ?hg ?ho ?hn ?hr ?_; (case ho => rfl); (case hg => rfl); (case hn => rfl); (case hr => first | (go_simp; done) | (go_simp; rfl)); intro w118 hw; have hg : wc.grownBy w118 (some go109) := (by rw [hw]; exact HP117.2); have hp_ : Kd.R (Kd.int .i64) 3 w118 w.heap.size (fun _ => True) (.slice (some ⟨go109, 0, none⟩) t143.length co14) y162 := (by rw [hw, Ny162.out]; exact HP117.1); clear HP117; have n0_ := Aside0.mk (hp_); have n1_ := Aside0.mk (zg3 BK140.out hg (Kd.R_ne HO_149000.out BK140.out (by decide))); have n2_ := Aside0.mk (zg3 BK141.out hg (Kd.R_ne HO_149000.out BK141.out (by decide))); have n3_ := Aside0.mk (zg3 BK142.out hg (Kd.R_ne HO_149000.out BK142.out (by decide))); have n4_ := Aside0.mk (zg3 BK148.out hg (Kd.R_ne HO_149000.out BK148.out (by decide))); have n5_ := Aside0.mk ((by rw [hw]; exact below_set (HB.out) GB109.out : Below w.heap.size w w118)); clear HO_149000; clear BK140; clear BK141; clear BK142; clear BK148; clear HB; have HO_149000 := n0_; have BK140 := n1_; have BK141 := n2_; have BK142 := n3_; have BK148 := n4_; have HB := n5_; clear n0_ n1_ n2_ n3_ n4_ n5_; clear hg hw hp_))
       go_meet
       case rel => exact ⟨_, ((-1)), (y162), (t151), (t147), (.slice (some ⟨go109, 0, none⟩) t143.length co14), (by first | rfl | (simp; done) | (simp [*]; done)), H', ⟨by have := HJ4.out; have := HJ54.out; first | omega | exact Nat.le_refl _⟩, ⟨zR3 HO_149000.out⟩, ⟨zK3 BK140.out⟩, ⟨zK3 BK141.out⟩, ⟨zK3 BK142.out⟩, ⟨zK3 BK148.out⟩, ⟨zB3_4⟩⟩
      rw [if_neg c106] at H
      have c106b0 : (x54_54 == 4) = false := beq_eq_false_iff_ne.mpr c106
      have c106b1 : (x54_54 != 4) = true := bne_iff_ne.mpr c106
      by_cases c119 : x54_54 = 5
      ·rw [if_pos c119] at H
       have c119b0 : (x54_54 == 5) = true := beq_iff_eq.mpr c119
       have c119b1 : (x54_54 != 5) = false := bne_eq_false_iff_eq.mpr c119
       clear c119
       have H' := Aside0.mk H
       clear H
       go_wp2
       go_meet
       case rel => exact ⟨_, ((rd l0_0 a1_3)), (t143), (t151), (t147), (.slice Ao14 t143.length co14), (by first | rfl | (simp; done) | (simp [*]; done)), H', ⟨by have := HJ4.out; have := HJ54.out; first | omega | exact Nat.le_refl _⟩, ⟨zR3 HO_149000.out⟩, ⟨zK3 BK140.out⟩, ⟨zK3 BK141.out⟩, ⟨zK3 BK142.out⟩, ⟨zK3 BK148.out⟩, ⟨zB3_4⟩⟩
      rw [if_neg c119] at H
      have c119b0 : (x54_54 == 5) = false := beq_eq_false_iff_ne.mpr c119
      have c119b1 : (x54_54 != 5) = true := bne_iff_ne.mpr c119
      by_cases c120 : x54_54 = 6
      ·rw [if_pos c120] at H
       have c120b0 : (x54_54 == 6) = true := beq_iff_eq.mpr c120
       have c120b1 : (x54_54 != 6) = false := bne_eq_false_iff_eq.mpr c120
       clear c120
       by_cases c121 : 0 ≤ a1_1
       rotate_left
       ·rw [if_neg c121] at H
        exact absurd H (by simp)
       rw [if_pos c121] at H
       have c121b0 : decide (0 ≤ a1_1) = true := decide_eq_true c121
       clear c121
       by_cases c122 : a1_1 < (t143.length : Int)
       rotate_left
       ·rw [if_neg c122] at H
        exact absurd H (by simp)
       rw [if_pos c122] at H
       have c122b0 : decide (a1_1 < (t143.length : Int)) = true := decide_eq_true c122
       clear c122
       obtain ⟨y163, hy163⟩ : ∃ y_ : List Int, y_ = (t143.set (a1_1 : Int).toNat a2) := ⟨_, rfl⟩
       replace H : ((spec_l9Word.f (wrap64 (a2 + (rd l0_0 a1_3)))).bind fun t164 => (spec_Work.j2 kj54 t164 y163 t151 t147)) = some (r1, r2, r3, r4) := by first | (rw [hy163]; with_reducible exact H) | (have H2_ := (Option.bind_some _ _).symm.trans H; rw [hy163]; with_reducible exact H2_) | (have H2_ := (Option.bind_some _ _).symm.trans H; with_reducible exact H2_) | with_reducible exact H | (rw [hy163]; exact H) | exact H
       have Ny163 := Aside0.mk hy163
       clear hy163
       replace H := Option.bind_eq_some_iff.mp H
       obtain ⟨t164, A1240, H⟩ := H
       replace H : (spec_Work.j2 kj54 t164 y163 t151 t147) = some (r1, r2, r3, r4) := H
       have A124 := Aside0.mk A1240
       clear A1240
       have H' := Aside0.mk H
       clear H
       have hnb125 := NB148_140.out
       have hnc125 := NB140_148.out
       have hnb126 := NB148_141.out
       have hnc126 := NB141_148.out
       have hnb127 := NB148_142.out
       have hnc127 := NB142_148.out
       obtain ⟨hcz128_0, hcz128_1, hcz128_2, hfz128_0, hfz128_1, hfz128_2⟩ := zc3_3 (w := wc) BK148.out
       have hnb129 := NB141_140.out
       have hnc129 := NB140_141.out
       have hnb130 := NB141_142.out
       have hnc130 := NB142_141.out
       obtain ⟨hcz131_0, hcz131_1, hcz131_2, hcz131_3, hcz131_4, hfz131_0, hfz131_1, hfz131_2, hfz131_3, hfz131_4⟩ := zc3_5 (w := wc) BK141.out
       have p123 : 0 ≤ (a1_1 : Int) := zA3
       have q123 : (a1_1 : Int) < ((t143.length : Int) : Int) := zA3
       obtain ⟨go123, co123, eo123, gb123, gl123, cl123, HG123⟩ := Kd.R_form HO_149000.out (by omega)
       (first | cases eo123 | (injection eo123 with ea_ en_ ec_; (first | subst ea_ | (injection ea_ with ea_; subst ea_)); subst ec_; clear en_))
       have GB123 := Aside0.mk gb123
       have GG123 := Aside0.mk HG123
       clear gb123 gl123 HG123
       obtain ⟨hx123_0, hf123_0⟩ := Kd.R_celln 0 HO_149000.out (a1_1 : Int) p123 q123
       replace p123 := eq_true p123
       replace q123 := eq_true q123
       have HP132 := Kd.R_putg HO_149000.out (a1_1 : Int) a2
       go_wp2_with (first | ((with_reducible refine gate_store (t := 3) (p := 116) rfl ?_); refine store_event (t := 3) (p := 116) (v := ?vo_w133) (w1 := (wc.setCell ⟨go123, (a1_1 : Int).toNat, none⟩ (.int .i64 a2))) ?hg ?ho ?hn ?hr ?_; (case ho => rfl); (case hg => rfl); (case hn => rfl); (case hr => first | (go_simp; done) | (go_simp; rfl)); intro w133 hw; have hg : wc.grownBy w133 (some go123) := (by rw [hw]; exact HP132.2); have hp_ : Kd.R (Kd.int .i64) 3 w133 w.heap.size (fun _ => True) (.slice (some ⟨go123, 0, none⟩) t143.length co14) y163 := (by rw [hw, Ny163.out]; exact HP132.1); clear HP132; have n0_ := Aside0.mk (hp_); have n1_ := Aside0.mk (zg3 BK140.out hg (Kd.R_ne HO_149000.out BK140.out (by decide))); have n2_ := Aside0.mk (zg3 BK141.out hg (Kd.R_ne HO_149000.out BK141.out (by decide))); have n3_ := Aside0.mk (zg3 BK142.out hg (Kd.R_ne HO_149000.out BK142.out (by decide))); have n4_ := Aside0.mk (zg3 BK148.out hg (Kd.R_ne HO_149000.out BK148.out (by decide))); have n5_ := Aside0.mk ((by rw [hw]; exact below_set (HB.out) GB123.out : Below w.heap.size w w133)); clear HO_149000; clear BK140; clear BK141; clear BK142; clear BK148; clear HB; have HO_149000 := n0_; have BK140 := n1_; have BK141 := n2_; have BK142 := n3_; have BK148 := n4_; have HB := n5_; clear n0_ n1_ n2_ n3_ n4_ n5_; clear hg hw hp_) | ((with_reducible refine gate_callee (f := 90) rfl ?_); refine goesL_ (some 120) rfl rfl Try.func90 (by kernel_rfl) rfl #[.int .i64 (wrap64 (a2 + (rd l0_0 a1_3)))] rfl zT3 ?_; (with_reducible refine (spec_l9Word.calls (wrap64 (a2 + (rd l0_0 a1_3))) t164 _ A124.out).mono ?_); rintro e w' ⟨rfl, ⟨nd, rfl⟩⟩; refine ⟨_, rfl, ?_⟩))
       go_meet
       case rel => exact ⟨_, (t164), (y163), (t151), (t147), (.slice (some ⟨go123, 0, none⟩) t143.length co14), (by first | rfl | (simp; done) | (simp [*]; done)), H', ⟨by have := HJ4.out; have := HJ54.out; first | omega | exact Nat.le_refl _⟩, ⟨zR3 HO_149000.out⟩, ⟨zK3 BK140.out⟩, ⟨zK3 BK141.out⟩, ⟨zK3 BK142.out⟩, ⟨zK3 BK148.out⟩, ⟨zB3_4⟩⟩
      rw [if_neg c120] at H
      have c120b0 : (x54_54 == 6) = false := beq_eq_false_iff_ne.mpr c120
      have c120b1 : (x54_54 != 6) = true := bne_iff_ne.mpr c120
      by_cases c134 : x54_54 = 7
      ·rw [if_pos c134] at H
       have c134b0 : (x54_54 == 7) = true := beq_iff_eq.mpr c134
       have c134b1 : (x54_54 != 7) = false := bne_eq_false_iff_eq.mpr c134
       clear c134
       by_cases c135 : (rd l0_0 a1_2) = 0
       rotate_left
       ·rw [if_neg c135] at H
        have c135b0 : ((rd l0_0 a1_2) == 0) = false := beq_eq_false_iff_ne.mpr c135
        have c135b1 : ((rd l0_0 a1_2) != 0) = true := bne_iff_ne.mpr c135
        have H' := Aside0.mk H
        clear H
        go_wp2
        go_meet
        case rel => exact ⟨_, ((-1)), (t143), (t151), (t147), (.slice Ao14 t143.length co14), (by first | rfl | (simp; done) | (simp [*]; done)), H', ⟨by have := HJ4.out; have := HJ54.out; first | omega | exact Nat.le_refl _⟩, ⟨zR3 HO_149000.out⟩, ⟨zK3 BK140.out⟩, ⟨zK3 BK141.out⟩, ⟨zK3 BK142.out⟩, ⟨zK3 BK148.out⟩, ⟨zB3_4⟩⟩
       rw [if_pos c135] at H
       have c135b0 : ((rd l0_0 a1_2) == 0) = true := beq_iff_eq.mpr c135
       have c135b1 : ((rd l0_0 a1_2) != 0) = false := bne_eq_false_iff_eq.mpr c135
       clear c135
       replace H := Option.bind_eq_some_iff.mp H
       obtain ⟨t165, A1360, H⟩ := H
       replace H : (spec_Work.j2 kj54 (-1) t143 t165 t147) = some (r1, r2, r3, r4) := H
       have A136 := Aside0.mk A1360
       clear A1360
       have H' := Aside0.mk H
       clear H
       have hnb137 := NB141_140.out
       have hnc137 := NB140_141.out
       have hnb138 := NB141_142.out
       have hnc138 := NB142_141.out
       have hnb139 := NB141_148.out
       have hnc139 := NB148_141.out
       obtain ⟨hcz140_0, hcz140_1, hcz140_2, hcz140_3, hcz140_4, hfz140_0, hfz140_1, hfz140_2, hfz140_3, hfz140_4⟩ := zc3_5 (w := wc) BK141.out
       go_wp2_with (first | ((with_reducible refine gate_callee (f := 89) rfl ?_); refine goesL_ (some 127) rfl rfl Try.func89 (by kernel_rfl) rfl #[.int .i64 a1_4] rfl zT3 ?_; (with_reducible refine (spec_l9Address.calls a1_4 t165 _ A136.out).mono ?_); rintro e w' ⟨rfl, ⟨nd, rfl⟩⟩; refine ⟨_, rfl, ?_⟩; (try (rw [drewN_self wc]; generalize hq_ : World.drewN wc _ = wc; have n0_ : Aside0 (Kd.R (Kd.int .i64) 3 wc w.heap.size (fun _ => True) (.slice Ao14 t143.length co14) t143) := ⟨by rw [← hq_]; exact (zR3 HO_149000.out)⟩; have n1_ : Aside0 (wc.heap[gb140]? = some (.cells #[.slice (some ad153) l0_0.length c0_0, .int .i64 a0_1, .int .i64 a0_2] 49 (0, 0))) := ⟨by rw [← hq_]; exact (zK3 BK140.out)⟩; have n2_ : Aside0 (wc.heap[gb141]? = some (.cells #[.int .i64 a1_0, .int .i64 a1_1, .int .i64 a1_2, .int .i64 a1_3, .int .i64 a1_4] 71 (0, 0))) := ⟨by rw [← hq_]; exact (zK3 BK141.out)⟩; have n3_ : Aside0 (wc.heap[gb142]? = some (.cells #[.slice none 0 0, .int .i64 0, .int .i64 0] 49 (0, 0))) := ⟨by rw [← hq_]; exact (zK3 BK142.out)⟩; have n4_ : Aside0 (wc.heap[gb148]? = some (.cells #[.slice Ao14 t143.length co14, .int .i64 t151, .int .i64 t147] 49 (0, 0))) := ⟨by rw [← hq_]; exact (zK3 BK148.out)⟩; have n5_ : Aside0 (Below w.heap.size w wc) := ⟨by rw [← hq_]; exact (zB3_4)⟩; clear HO_149000 BK140 BK141 BK142 BK148 HB hq_; have HO_149000 := n0_; have BK140 := n1_; have BK141 := n2_; have BK142 := n3_; have BK148 := n4_; have HB := n5_; clear n0_ n1_ n2_ n3_ n4_ n5_)); have hnb141 := NB148_140.out; have hnc141 := NB140_148.out; have hnb142 := NB148_142.out; have hnc142 := NB142_148.out; obtain ⟨hcz143_0, hcz143_1, hcz143_2, hfz143_0, hfz143_1, hfz143_2⟩ := zc3_3 (w := wc) BK148.out))
       go_meet
       case rel => exact ⟨_, ((-1)), (t143), (t165), (t147), (.slice Ao14 t143.length co14), (by first | rfl | (simp; done) | (simp [*]; done)), H', ⟨by have := HJ4.out; have := HJ54.out; first | omega | exact Nat.le_refl _⟩, ⟨by (with_reducible repeat (first | apply Kd.R_alloc | apply Kd.R_drewN | apply Kd.R_drew)); exact Kd.R_mono (Kd.R_far (p := ⟨gb148, 1, none⟩) (Kd.R_types HO_149000.out BK148.out (by decide)) (fun _ hk => hk.2) (.int .i64 t165)) (fun _ hk => trivial)⟩, ⟨by refine zP3 ?_; refine blk_far ?_ NB140_148.out _; refine zP3 ?_; exact BK140.out⟩, ⟨by refine zP3 ?_; refine blk_far ?_ NB141_148.out _; refine zP3 ?_; exact BK141.out⟩, ⟨by refine zP3 ?_; refine blk_far ?_ NB142_148.out _; refine zP3 ?_; exact BK142.out⟩, ⟨by refine zP3 ?_; refine blk_put (cs := #[.slice Ao14 t143.length co14, .int .i64 t151, .int .i64 t147]) ?_ 1 _ rfl; refine zP3 ?_; exact BK148.out⟩, ⟨zB3_4⟩⟩
      rw [if_neg c134] at H
      have c134b0 : (x54_54 == 7) = false := beq_eq_false_iff_ne.mpr c134
      have c134b1 : (x54_54 != 7) = true := bne_iff_ne.mpr c134
      by_cases c144 : x54_54 = 8
      rotate_left
      ·rw [if_neg c144] at H
       have c144b0 : (x54_54 == 8) = false := beq_eq_false_iff_ne.mpr c144
       have c144b1 : (x54_54 != 8) = true := bne_iff_ne.mpr c144
       by_cases c153 : x54_54 = 9
       rotate_left
       ·rw [if_neg c153] at H
        have c153b0 : (x54_54 == 9) = false := beq_eq_false_iff_ne.mpr c153
        have c153b1 : (x54_54 != 9) = true := bne_iff_ne.mpr c153
        have H' := Aside0.mk H
        clear H
        go_wp2
        go_meet
        case rel => exact ⟨_, ((-1)), (t143), (t151), (t147), (.slice Ao14 t143.length co14), (by first | rfl | (simp; done) | (simp [*]; done)), H', ⟨by have := HJ4.out; have := HJ54.out; first | omega | exact Nat.le_refl _⟩, ⟨zR3 HO_149000.out⟩, ⟨zK3 BK140.out⟩, ⟨zK3 BK141.out⟩, ⟨zK3 BK142.out⟩, ⟨zK3 BK148.out⟩, ⟨zB3_4⟩⟩
       rw [if_pos c153] at H
       have c153b0 : (x54_54 == 9) = true := beq_iff_eq.mpr c153
       have c153b1 : (x54_54 != 9) = false := bne_eq_false_iff_eq.mpr c153
       clear c153
       have H' := Aside0.mk H
       clear H
       have hnb154 := NB140_141.out
       have hnc154 := NB141_140.out
       have hnb155 := NB140_142.out
       have hnc155 := NB142_140.out
       have hnb156 := NB140_148.out
       have hnc156 := NB148_140.out
       obtain ⟨hcz157_0, hcz157_1, hcz157_2, hfz157_0, hfz157_1, hfz157_2⟩ := zc3_3 (w := wc) BK140.out
       have hnb158 := NB148_141.out
       have hnc158 := NB141_148.out
       have hnb159 := NB148_142.out
       have hnc159 := NB142_148.out
       obtain ⟨hcz160_0, hcz160_1, hcz160_2, hfz160_0, hfz160_1, hfz160_2⟩ := zc3_3 (w := wc) BK148.out
       go_wp2
       go_meet
       case rel => exact ⟨_, ((-1)), (t143), (a0_1), (1), (.slice Ao14 t143.length co14), (by first | rfl | (simp; done) | (simp [*]; done)), H', ⟨by have := HJ4.out; have := HJ54.out; first | omega | exact Nat.le_refl _⟩, ⟨by (with_reducible repeat (first | apply Kd.R_alloc | apply Kd.R_drewN | apply Kd.R_drew)); exact Kd.R_mono (Kd.R_far (p := ⟨gb148, 2, none⟩) (Kd.R_far (p := ⟨gb148, 1, none⟩) (Kd.R_types HO_149000.out BK148.out (by decide)) (fun _ hk => hk.2) (.int .i64 a0_1)) (fun _ hk => hk.2) (.int .i64 1)) (fun _ hk => trivial)⟩, ⟨by refine zP3 ?_; refine blk_far ?_ NB140_148.out _; refine zP3 ?_; refine blk_far ?_ NB140_148.out _; refine zP3 ?_; exact BK140.out⟩, ⟨by refine zP3 ?_; refine blk_far ?_ NB141_148.out _; refine zP3 ?_; refine blk_far ?_ NB141_148.out _; refine zP3 ?_; exact BK141.out⟩, ⟨by refine zP3 ?_; refine blk_far ?_ NB142_148.out _; refine zP3 ?_; refine blk_far ?_ NB142_148.out _; refine zP3 ?_; exact BK142.out⟩, ⟨by refine zP3 ?_; refine blk_put (cs := #[.slice Ao14 t143.length co14, .int .i64 a0_1, .int .i64 t147]) ?_ 2 _ rfl; refine zP3 ?_; refine blk_put (cs := #[.slice Ao14 t143.length co14, .int .i64 t151, .int .i64 t147]) ?_ 1 _ rfl; refine zP3 ?_; exact BK148.out⟩, ⟨zB3_4⟩⟩
      rw [if_pos c144] at H
      have c144b0 : (x54_54 == 8) = true := beq_iff_eq.mpr c144
      have c144b1 : (x54_54 != 8) = false := bne_eq_false_iff_eq.mpr c144
      clear c144
      replace H := Option.bind_eq_some_iff.mp H
      obtain ⟨t166, A1450, H⟩ := H
      replace H : (spec_Work.j2 kj54 (-1) t143 t166 t147) = some (r1, r2, r3, r4) := H
      have A145 := Aside0.mk A1450
      clear A1450
      have H' := Aside0.mk H
      clear H
      have hnb146 := NB141_140.out
      have hnc146 := NB140_141.out
      have hnb147 := NB141_142.out
      have hnc147 := NB142_141.out
      have hnb148 := NB141_148.out
      have hnc148 := NB148_141.out
      obtain ⟨hcz149_0, hcz149_1, hcz149_2, hcz149_3, hcz149_4, hfz149_0, hfz149_1, hfz149_2, hfz149_3, hfz149_4⟩ := zc3_5 (w := wc) BK141.out
      go_wp2_with (first | ((with_reducible refine gate_callee (f := 89) rfl ?_); refine goesL_ (some 133) rfl rfl Try.func89 (by kernel_rfl) rfl #[.int .i64 a1_4] rfl zT3 ?_; (with_reducible refine (spec_l9Address.calls a1_4 t166 _ A145.out).mono ?_); rintro e w' ⟨rfl, ⟨nd, rfl⟩⟩; refine ⟨_, rfl, ?_⟩; (try (rw [drewN_self wc]; generalize hq_ : World.drewN wc _ = wc; have n0_ : Aside0 (Kd.R (Kd.int .i64) 3 wc w.heap.size (fun _ => True) (.slice Ao14 t143.length co14) t143) := ⟨by rw [← hq_]; exact (zR3 HO_149000.out)⟩; have n1_ : Aside0 (wc.heap[gb140]? = some (.cells #[.slice (some ad153) l0_0.length c0_0, .int .i64 a0_1, .int .i64 a0_2] 49 (0, 0))) := ⟨by rw [← hq_]; exact (zK3 BK140.out)⟩; have n2_ : Aside0 (wc.heap[gb141]? = some (.cells #[.int .i64 a1_0, .int .i64 a1_1, .int .i64 a1_2, .int .i64 a1_3, .int .i64 a1_4] 71 (0, 0))) := ⟨by rw [← hq_]; exact (zK3 BK141.out)⟩; have n3_ : Aside0 (wc.heap[gb142]? = some (.cells #[.slice none 0 0, .int .i64 0, .int .i64 0] 49 (0, 0))) := ⟨by rw [← hq_]; exact (zK3 BK142.out)⟩; have n4_ : Aside0 (wc.heap[gb148]? = some (.cells #[.slice Ao14 t143.length co14, .int .i64 t151, .int .i64 t147] 49 (0, 0))) := ⟨by rw [← hq_]; exact (zK3 BK148.out)⟩; have n5_ : Aside0 (Below w.heap.size w wc) := ⟨by rw [← hq_]; exact (zB3_4)⟩; clear HO_149000 BK140 BK141 BK142 BK148 HB hq_; have HO_149000 := n0_; have BK140 := n1_; have BK141 := n2_; have BK142 := n3_; have BK148 := n4_; have HB := n5_; clear n0_ n1_ n2_ n3_ n4_ n5_)); have hnb150 := NB148_140.out; have hnc150 := NB140_148.out; have hnb151 := NB148_142.out; have hnc151 := NB142_148.out; obtain ⟨hcz152_0, hcz152_1, hcz152_2, hfz152_0, hfz152_1, hfz152_2⟩ := zc3_3 (w := wc) BK148.out))
      go_meet
      case rel => exact ⟨_, ((-1)), (t143), (t166), (t147), (.slice Ao14 t143.length co14), (by first | rfl | (simp; done) | (simp [*]; done)), H', ⟨by have := HJ4.out; have := HJ54.out; first | omega | exact Nat.le_refl _⟩, ⟨by (with_reducible repeat (first | apply Kd.R_alloc | apply Kd.R_drewN | apply Kd.R_drew)); exact Kd.R_mono (Kd.R_far (p := ⟨gb148, 1, none⟩) (Kd.R_types HO_149000.out BK148.out (by decide)) (fun _ hk => hk.2) (.int .i64 t166)) (fun _ hk => trivial)⟩, ⟨by refine zP3 ?_; refine blk_far ?_ NB140_148.out _; refine zP3 ?_; exact BK140.out⟩, ⟨by refine zP3 ?_; refine blk_far ?_ NB141_148.out _; refine zP3 ?_; exact BK141.out⟩, ⟨by refine zP3 ?_; refine blk_far ?_ NB142_148.out _; refine zP3 ?_; exact BK142.out⟩, ⟨by refine zP3 ?_; refine blk_put (cs := #[.slice Ao14 t143.length co14, .int .i64 t151, .int .i64 t147]) ?_ 1 _ rfl; refine zP3 ?_; exact BK148.out⟩, ⟨zB3_4⟩⟩
     case rest =>
      clear HC71
      try clear c1
      try clear p1
      try clear q1
      try clear hx1
      try clear p2
      try clear p6
      try clear c8
      try clear c9
      try clear p9
      try clear q9
      try clear hx9
      try clear hf9
      try clear c10
      try clear p10
      try clear q10
      try clear hx10
      try clear hf10
      try clear c11
      try clear c12
      try clear p12
      try clear q12
      try clear hx12
      try clear hf12
      try clear c13
      try clear c14
      try clear c15
      try clear p64
      try clear c85
      try clear c85b0
      try clear c85b1
      try clear c87
      try clear c88
      try clear c89
      try clear c90
      try clear c92
      try clear c92b0
      try clear c92b1
      try clear c94
      try clear c94b0
      try clear c95
      try clear c95b0
      try clear p96
      try clear q96
      try clear hx96
      try clear hf96
      try clear c99
      try clear c99b0
      try clear c99b1
      try clear c101
      try clear c101b0
      try clear c102
      try clear c102b0
      try clear p103
      try clear q103
      try clear hx103
      try clear hf103
      try clear c106
      try clear c106b0
      try clear c106b1
      try clear c107
      try clear c107b0
      try clear c108
      try clear c108b0
      try clear p109
      try clear q109
      try clear hx109
      try clear hf109
      try clear c110
      try clear c111
      try clear c112
      try clear c114
      try clear c115
      try clear c119
      try clear c119b0
      try clear c119b1
      try clear c120
      try clear c120b0
      try clear c120b1
      try clear c121
      try clear c121b0
      try clear c122
      try clear c122b0
      try clear p123
      try clear q123
      try clear hx123
      try clear hf123
      try clear c125
      try clear c126
      try clear c127
      try clear c129
      try clear c130
      try clear c134
      try clear c134b0
      try clear c134b1
      try clear c135
      try clear c135b0
      try clear c135b1
      try clear c137
      try clear c138
      try clear c139
      try clear c141
      try clear c142
      try clear c144
      try clear c144b0
      try clear c144b1
      try clear c146
      try clear c147
      try clear c148
      try clear c150
      try clear c151
      try clear c153
      try clear c153b0
      try clear c153b1
      try clear c154
      try clear c155
      try clear c156
      try clear c158
      try clear c159
      try clear hcz113_0
      try clear hcz113_1
      try clear hcz113_2
      try clear hcz116_0
      try clear hcz116_1
      try clear hcz116_2
      try clear hcz116_3
      try clear hcz116_4
      try clear hcz128_0
      try clear hcz128_1
      try clear hcz128_2
      try clear hcz131_0
      try clear hcz131_1
      try clear hcz131_2
      try clear hcz131_3
      try clear hcz131_4
      try clear hcz140_0
      try clear hcz140_1
      try clear hcz140_2
      try clear hcz140_3
      try clear hcz140_4
      try clear hcz143_0
      try clear hcz143_1
      try clear hcz143_2
      try clear hcz149_0
      try clear hcz149_1
      try clear hcz149_2
      try clear hcz149_3
      try clear hcz149_4
      try clear hcz152_0
      try clear hcz152_1
      try clear hcz152_2
      try clear hcz157_0
      try clear hcz157_1
      try clear hcz157_2
      try clear hcz160_0
      try clear hcz160_1
      try clear hcz160_2
      try clear hfz113_0
      try clear hfz113_1
      try clear hfz113_2
      try clear hfz116_0
      try clear hfz116_1
      try clear hfz116_2
      try clear hfz116_3
      try clear hfz116_4
      try clear hfz128_0
      try clear hfz128_1
      try clear hfz128_2
      try clear hfz131_0
      try clear hfz131_1
      try clear hfz131_2
      try clear hfz131_3
      try clear hfz131_4
      try clear hfz140_0
      try clear hfz140_1
      try clear hfz140_2
      try clear hfz140_3
      try clear hfz140_4
      try clear hfz143_0
      try clear hfz143_1
      try clear hfz143_2
      try clear hfz149_0
      try clear hfz149_1
      try clear hfz149_2
      try clear hfz149_3
      try clear hfz149_4
      try clear hfz152_0
      try clear hfz152_1
      try clear hfz152_2
      try clear hfz157_0
      try clear hfz157_1
      try clear hfz157_2
      try clear hfz160_0
      try clear hfz160_1
      try clear hfz160_2
      try clear hx103_0
      try clear hx109_0
      try clear hx123_0
      try clear hx96_0
      try clear p103
      try clear p109
      try clear p123
      try clear p96
      try clear q103
      try clear q109
      try clear q123
      try clear q96
      obtain ⟨kq, x9_70, x149000_70, x149001_70, x149002_70, u149000, rfl, HA, HJ70, HO_149000, BK140, BK141, BK142, BK148, HB⟩ := hcut
      cases kq with
      | zero => exact absurd HA.out (by simp [spec_Work.j2])
      | succ kj70 =>
       have H := HA.out
       clear HA
       simp only [spec_Work.j2] at H
       simp only [Option.some.injEq, Prod.mk.injEq] at H
       obtain ⟨rfl, rfl, rfl, rfl⟩ := H
       have hnb161 := NB148_140.out
       have hnc161 := NB140_148.out
       have hnb162 := NB148_141.out
       have hnc162 := NB141_148.out
       have hnb163 := NB148_142.out
       have hnc163 := NB142_148.out
       obtain ⟨hcz164_0, hcz164_1, hcz164_2, hfz164_0, hfz164_1, hfz164_2⟩ := zc3_3 (w := wc) BK148.out
       obtain ⟨Ao165, co165, eo165⟩ := Kd.R_slice HO_149000.out
       subst eo165
       have hnb166 := NB142_140.out
       have hnc166 := NB140_142.out
       have hnb167 := NB142_141.out
       have hnc167 := NB141_142.out
       obtain ⟨hcz168_0, hcz168_1, hcz168_2, hfz168_0, hfz168_1, hfz168_2⟩ := zc3_3 (w := wc) BK142.out
       go_wp2
       refine bodyPost_ret (results_ct rfl _ _ gb142 49 #[.slice Ao165 x149000_70.length co165, .int .i64 x149001_70, .int .i64 x149002_70] (0, 0) _ rfl (by refine zP3 ?_; refine blk_put (cs := #[.slice Ao165 x149000_70.length co165, .int .i64 x149001_70, .int .i64 0]) ?_ 2 _ rfl; refine zP3 ?_; refine blk_put (cs := #[.slice Ao165 x149000_70.length co165, .int .i64 0, .int .i64 0]) ?_ 1 _ rfl; refine zP3 ?_; refine blk_put (cs := #[.slice none 0 0, .int .i64 0, .int .i64 0]) ?_ 0 _ rfl; refine zP3 ?_; exact BK142.out) Try.underlying49 rfl (by kernel_rfl)) rfl ?_
       exact ⟨_, zE3, by (with_reducible repeat (first | apply Kd.R_alloc | apply Kd.R_drewN | apply Kd.R_drew)); exact Kd.R_mono (Kd.R_far (p := ⟨gb142, 2, none⟩) (Kd.R_far (p := ⟨gb142, 1, none⟩) (Kd.R_far (p := ⟨gb142, 0, none⟩) (Kd.R_types HO_149000.out BK142.out (by decide)) (fun _ hk => hk.2) (.slice Ao165 x149000_70.length co165)) (fun _ hk => hk.2) (.int .i64 x149001_70)) (fun _ hk => hk.2) (.int .i64 x149002_70)) (fun _ hk => trivial), zB3_4⟩

end Go.Proofs.Ytgbjengnkbomoaa.PFnByHart
