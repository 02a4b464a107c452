-- made by wip/tools/myprint.py out of the seat's translation
import Derived.Test.YtnekcbajadnldaaPFnLayoutsx0
import Derived.Test.YtnekcbajadnldaaPFnLayoutsx5
import Derived.Test.YtnekcbajadnldaaPFnLayoutsx6
namespace Go.Proofs.Ytnekcbajadnldaa.PFnLayouts
open Go.RowKit Go.Proofs.YtnekcbajadnldaaW.PrintWords Go.Proofs.YtnekcbajadnldaaW.PrintLast Go.Proofs.YtnekcbajadnldaaW.PrintMore
attribute [local go_sem] max2_int min2_int max_two min_two max_three min_three max_four min_four   -- for this text's walks alone
set_option linter.unusedVariables false
set_option linter.unusedSimpArgs false
theorem zc7_2 {w : World} {g : Nat} {a0 a1 : Value} {t : TypeId} (h : w.heap[g]? = some (.cells #[a0, a1] t (0, 0))) : w.cell? ⟨g, 0, none⟩ = some a0 ∧ w.cell? ⟨g, 1, none⟩ = some a1 ∧ w.frozen? ⟨g, 0, none⟩ = false ∧ w.frozen? ⟨g, 1, none⟩ = false := ⟨(blk_cell h 0).trans rfl, (blk_cell h 1).trans rfl, blk_frozen h 0, blk_frozen h 1⟩
theorem zc7_3 {w : World} {g : Nat} {a0 a1 a2 : Value} {t : TypeId} (h : w.heap[g]? = some (.cells #[a0, a1, a2] t (0, 0))) : w.cell? ⟨g, 0, none⟩ = some a0 ∧ w.cell? ⟨g, 1, none⟩ = some a1 ∧ w.cell? ⟨g, 2, none⟩ = some a2 ∧ w.frozen? ⟨g, 0, none⟩ = false ∧ w.frozen? ⟨g, 1, none⟩ = false ∧ w.frozen? ⟨g, 2, none⟩ = false := ⟨(blk_cell h 0).trans rfl, (blk_cell h 1).trans rfl, (blk_cell h 2).trans rfl, blk_frozen h 0, blk_frozen h 1, blk_frozen h 2⟩
abbrev zq7_0 : Array Bool := #[false, false, false, false, false, false, false, false, false, false, false, false, false, false, false, false, false, false, false, false, false, false, false, false, false, false, false, false, false, false, false, false, false]
abbrev zq7_1 : Array Bool := #[true, false, false, false, false, false, false, false, false, false, false, false, false, false, false, false, false, false, false, false, false, false, false, false, false, false, false, false, false, false, false, false, false]
abbrev zq7_2 : Array Bool := #[true, false, true, false, false, false, false, false, false, false, false, false, false, false, false, false, false, false, false, false, false, false, false, false, false, false, false, false, false, false, false, false, false]
abbrev zq7_3 : Array Bool := #[true, true, true, false, false, false, false, false, false, false, false, false, false, false, false, false, false, false, false, false, false, false, false, false, false, false, false, false, false, false, false, false, false]
abbrev zq7_4 : Array Bool := #[true, true, true, true, false, false, false, false, false, false, false, false, false, false, false, false, false, false, false, false, false, false, false, false, false, false, false, false, false, false, false, false, false]
abbrev zq7_5 : Array Bool := #[true, true, true, true, true, false, false, false, false, false, false, false, false, false, false, false, false, false, false, false, false, false, false, false, false, false, false, false, false, false, false, false, false]
abbrev zq7_6 : Array Bool := #[true, true, true, true, true, true, false, false, false, false, false, false, false, false, false, false, false, false, false, false, false, false, false, false, false, false, false, false, false, false, false, false, false]
abbrev zq7_7 : Array Bool := #[true, true, true, true, true, true, true, false, false, false, false, false, false, false, false, false, false, false, false, false, false, false, false, false, false, false, false, false, false, false, false, false, false]
abbrev zq7_8 : Array Bool := #[true, true, true, true, true, true, true, true, false, false, false, false, false, false, false, false, false, false, false, false, false, false, false, false, false, false, false, false, false, false, false, false, false]
abbrev zq7_9 : Array Bool := #[true, true, true, true, true, true, true, true, true, false, false, false, false, false, false, false, false, false, false, false, false, false, false, false, false, false, false, false, false, false, false, false, false]
abbrev zq7_10 : Array Bool := #[true, true, true, true, true, true, true, true, true, true, false, false, false, false, false, false, false, false, false, false, false, false, false, false, false, false, false, false, false, false, false, false, false]
abbrev zq7_11 : Array Bool := #[true, true, true, true, true, true, true, true, true, true, false, true, false, false, false, false, false, false, false, false, false, false, false, false, false, false, false, false, false, false, false, false, false]
abbrev zq7_12 : Array Bool := #[true, true, true, true, true, true, true, true, true, true, false, true, false, true, false, false, false, false, false, false, false, false, false, false, false, false, false, false, false, false, false, false, false]
abbrev zq7_13 : Array Bool := #[true, true, true, true, true, true, true, true, true, true, true, true, false, true, false, false, false, false, false, false, false, false, false, false, false, false, false, false, false, false, false, false, false]
abbrev zq7_14 : Array Bool := #[true, true, true, true, true, true, true, true, true, true, true, true, true, true, false, false, false, false, false, false, false, false, false, false, false, false, false, false, false, false, false, false, false]
abbrev zq7_15 : Array Bool := #[true, true, true, true, true, true, true, true, true, true, true, true, true, true, true, false, false, false, false, false, false, false, false, false, false, false, false, false, false, false, false, false, false]
abbrev zq7_16 : Array Bool := #[true, true, true, true, true, true, true, true, true, true, true, true, true, true, true, true, false, false, false, false, false, false, false, false, false, false, false, false, false, false, false, false, false]
abbrev zq7_17 : Array Bool := #[true, true, true, true, true, true, true, true, true, true, true, true, true, true, true, true, true, false, false, false, false, false, false, false, false, false, false, false, false, false, false, false, false]
abbrev zq7_18 : Array Bool := #[true, true, true, true, true, true, true, true, true, true, true, true, true, true, true, true, true, true, false, false, false, false, false, false, false, false, false, false, false, false, false, false, false]
abbrev zq7_19 : Array Bool := #[true, true, true, true, true, true, true, true, true, true, true, true, true, true, true, true, true, true, true, false, false, false, false, false, false, false, false, false, false, false, false, false, false]
abbrev zq7_20 : Array Bool := #[true, true, true, true, true, true, true, true, true, true, true, true, true, true, true, true, true, true, true, true, false, false, false, false, false, false, false, false, false, false, false, false, false]
abbrev zq7_21 : Array Bool := #[true, true, true, true, true, true, true, true, true, true, true, true, true, true, true, true, true, true, true, true, true, false, false, false, false, false, false, false, false, false, false, false, false]
abbrev zq7_22 : Array Bool := #[true, true, true, true, true, true, true, true, true, true, true, true, true, true, true, true, true, true, true, true, true, true, false, false, false, false, false, false, false, false, false, false, false]
abbrev zq7_23 : Array Bool := #[true, true, true, true, true, true, true, true, true, true, true, true, true, true, true, true, true, true, true, true, true, true, true, false, false, false, false, false, false, false, false, false, false]
abbrev zq7_24 : Array Bool := #[true, true, true, true, true, true, true, true, true, true, true, true, true, true, true, true, true, true, true, true, true, true, true, true, false, false, false, false, false, false, false, false, false]
abbrev zq7_25 : Array Bool := #[true, true, true, true, true, true, true, true, true, true, true, true, true, true, true, true, true, true, true, true, true, true, true, true, true, false, false, false, false, false, false, false, false]
abbrev zq7_26 : Array Bool := #[true, true, true, true, true, true, true, true, true, true, true, true, true, true, true, true, true, true, true, true, true, true, true, true, true, true, false, false, false, false, false, false, false]
abbrev zq7_27 : Array Bool := #[true, true, true, true, true, true, true, true, true, true, true, true, true, true, true, true, true, true, true, true, true, true, true, true, true, true, true, false, false, false, false, false, false]
abbrev zq7_28 : Array Bool := #[true, true, true, true, true, true, true, true, true, true, true, true, true, true, true, true, true, true, true, true, true, true, true, true, true, true, true, true, false, false, false, false, false]
abbrev zq7_29 : Array Bool := #[true, true, true, true, true, true, true, true, true, true, true, true, true, true, true, true, true, true, true, true, true, true, true, true, true, true, true, true, true, false, false, false, false]
abbrev zq7_30 : Array Bool := #[true, true, true, true, true, true, true, true, true, true, true, true, true, true, true, true, true, true, true, true, true, true, true, true, true, true, true, true, true, true, false, false, false]
abbrev zq7_31 : Array Bool := #[true, true, true, true, true, true, true, true, true, true, true, true, true, true, true, true, true, true, true, true, true, true, true, true, true, true, true, true, true, true, true, false, false]
abbrev zq7_32 : Array Bool := #[true, true, true, true, true, true, true, true, true, true, true, true, true, true, true, true, true, true, true, true, true, true, true, true, true, true, true, true, true, true, true, true, false]
abbrev zq7_33 : Array Bool := #[true, true, true, true, true, true, true, true, true, true, true, true, true, true, true, true, true, true, true, true, true, true, true, true, true, true, true, true, true, true, true, true, true]
abbrev zq7_34 : Array Bool := #[true, true, true, true, true, true, true, true, true, true, true, true, true, true, true, true, true, true, true, false, true, false, false, false, false, false, false, false, false, false, false, false, false]
theorem zK7 {p q : Prop} (x : q) (h : q → p := by intro h; (with_reducible repeat (first | refine blk_drewN ?_ _ | refine blk_drew ?_ | refine blk_alloc ?_ _)); exact h) : p := h x
theorem zA7 {p : Prop} [Decidable p] (h : decide p = true := by first | (with_reducible assumption) | assumption) : p := of_decide_eq_true h
theorem zT7 {p : Prop} (h : p := by (try simp only [List.map_toArray, List.map_cons, List.map_nil]); first | done | rfl | (simp only [List.length_drop, List.length_take]; rfl)) : p := h
theorem zb7 {W w w1 : World} {g : Nat} {o : Obj} (x : W.heap[g]? = some o) (hb : Below w.heap.size w w1) (h : W.heap[g]? = some o → w.heap[g]? = some o := by intro h; (with_reducible repeat (first | refine blk_drewN ?_ _ | refine blk_drew ?_ | refine blk_alloc ?_ _)); exact h) : w1.heap[g]? = some o := blk_below (h x) hb
theorem zn7 {W w : World} {g g' : Nat} {o : Obj} (x : W.heap[g]? = some o) (hg : g' = w.heap.size) (h : W.heap[g]? = some o → w.heap[g]? = some o := by intro h; (with_reducible repeat (first | refine blk_drewN ?_ _ | refine blk_drew ?_ | refine blk_alloc ?_ _)); exact h) : g ≠ g' := by rw [hg]; exact Nat.ne_of_lt (blk_lt (h x))
theorem zm7 {W w : World} {g g' : Nat} {o : Obj} (x : W.heap[g]? = some o) (hg : g' = w.heap.size) (h : W.heap[g]? = some o → w.heap[g]? = some o := by intro h; (with_reducible repeat (first | refine blk_drewN ?_ _ | refine blk_drew ?_ | refine blk_alloc ?_ _)); exact h) : g' ≠ g := by rw [hg]; exact Nat.ne_of_gt (blk_lt (h x))
theorem zP7 {p q : Prop} (x : q) (h : q → p := by intro h; (with_reducible repeat (first | refine blk_drewN ?_ _ | refine blk_drew ?_ | refine blk_alloc ?_ _)); exact h) : p := h x
theorem zV7 {a b : Act} (h : a = b := by simp only [Act.put, List.setIfInBounds_toArray, List.set_cons_zero, List.set_cons_succ, i64_w, i32_w]; rfl) : a = b := h
theorem zE7 {p : Prop} (h : p := by first | rfl | (simp [errW_none, errW_some] <;> rfl) | (simp [*, errW_none, errW_some] <;> rfl)) : p := h
theorem zB7_0 {p : Prop} (h : p := by repeat (first | (with_reducible first | exact HB.out | apply below_alloc | apply pw_below_drewN | apply below_drew1) | exact HB.out)) : p := h
theorem zB7_1 {p : Prop} (h : p := by repeat (first | (with_reducible first | exact HB.out | apply below_alloc | apply pw_below_drewN | apply below_drew1 | refine below_set ?_ GE310.out) | exact HB.out)) : p := h
theorem zB7_2 {p : Prop} (h : p := by repeat (first | (with_reducible first | exact HB.out | apply below_alloc | apply pw_below_drewN | apply below_drew1 | refine below_set ?_ GE310.out | refine below_set ?_ GE315.out) | exact HB.out)) : p := h

/-! ### impl_PartOk: function 45 -/
mutual
def impl_PartOk.j0 : Nat → Bool → ByteArray → List (S52) → List (S56) → Option (Bool)
 | 0, _, _, _, _ => none
 | k + 1, x26, x311000, x311001, x311002 => if x26 = true then (some false) else (impl_PartOk.l0 k x311002 (x311002.length : Int) 0 x311000 x311001 x311002)
def impl_PartOk.l0 : Nat → List (S56) → Int → Int → ByteArray → List (S52) → List (S56) → Option (Bool)
 | 0, _, _, _, _, _, _ => none
 | k + 1, x28, x29, x30, x311000, x311001, x311002 => if x30 < x29 then (if 0 ≤ x30 then (if x30 < (x28.length : Int) then ((impl_from.f ((rd_T56 x28 x30).f0) 0 (wrap64 ((x311001.length : Int) - 1))).bind fun t316 => (if t316 = true then (if x30 ≤ (x311002.length : Int) then ((impl_isRef.f (x311002.take (x30 : Int).toNat) ((rd_T56 x28 x30).f0)).bind fun t321 => (if t321 = true then (some false) else (if 0 ≤ ((rd_T56 x28 x30).f0) then (if ((rd_T56 x28 x30).f0) < (x311001.length : Int) then ((impl_goesTo.f ((rd_T52 x311001 ((rd_T56 x28 x30).f0)).f0) ((rd_T52 x311001 ((rd_T56 x28 x30).f0)).f1) ((rd_T52 x311001 ((rd_T56 x28 x30).f0)).f2) ((rd_T52 x311001 ((rd_T56 x28 x30).f0)).f3) ((rd_T52 x311001 ((rd_T56 x28 x30).f0)).f4)).bind fun t323 => (if t323 = true then ((impl_nameOk.f k ((rd_T56 x28 x30).f1)).bind fun t324 => (if t324 = true then (impl_PartOk.l0 k x28 x29 (wrap64 (x30 + 1)) x311000 x311001 x311002) else (some false))) else (some false))) else (none)) else (none)))) else (none)) else (some false))) else (none)) else (none)) else (some true)
end
def impl_PartOk.f (k : Nat) (a0_0 : ByteArray) (l0_1 : List (S52)) (l0_2 : List (S56)) : Option (Bool) := (impl_nameOk.f k a0_0).bind fun t311 => (if t311 = true then ((impl_from.f (l0_1.length : Int) 1 24).bind fun t312 => (if t312 = true then (if (l0_2.length : Int) > 24 then (impl_PartOk.j0 k true a0_0 l0_1 l0_2) else ((slices_ContainsFunc_at_impl_PartOk_1.f k l0_1 0).bind fun t313 => (impl_PartOk.j0 k t313 a0_0 l0_1 l0_2))) else (impl_PartOk.j0 k true a0_0 l0_1 l0_2))) else (impl_PartOk.j0 k true a0_0 l0_1 l0_2))
theorem impl_PartOk.mono_l : ∀ k, (∀ y0 y1 y2 y3, LeO (impl_PartOk.j0 k y0 y1 y2 y3) (impl_PartOk.j0 (k + 1) y0 y1 y2 y3)) ∧ (∀ y0 y1 y2 y3 y4 y5, LeO (impl_PartOk.l0 k y0 y1 y2 y3 y4 y5) (impl_PartOk.l0 (k + 1) y0 y1 y2 y3 y4 y5))
 | 0 => ⟨fun _ _ _ _ r h => by simp [impl_PartOk.j0] at h, fun _ _ _ _ _ _ r h => by simp [impl_PartOk.l0] at h⟩
 | k + 1 => by
  obtain ⟨ih0, ih1⟩ := impl_PartOk.mono_l k
  refine ⟨?_, ?_⟩
  ·intro y0 y1 y2 y3
   unfold impl_PartOk.j0
   repeat' first
   | (with_reducible exact ih0 _ _ _ _)
   | (with_reducible exact ih1 _ _ _ _ _ _)
   | (with_reducible exact impl_nameOk.mono _ _)
   | (with_reducible exact slices_ContainsFunc_at_impl_PartOk_1.mono _ _ _)
   | (with_reducible exact LeO.refl _)
   | (with_reducible exact LeO.none _)
   | (with_reducible refine LeO.ite ?_ ?_)
   | (with_reducible refine LeO.bind ?_ (fun _ => ?_))
   | exact ih0 _ _ _ _
   | exact ih1 _ _ _ _ _ _
   | exact impl_nameOk.mono _ _
   | exact slices_ContainsFunc_at_impl_PartOk_1.mono _ _ _
   | exact LeO.none _
   | refine LeO.ite ?_ ?_
   | refine LeO.bind ?_ (fun _ => ?_)
  ·intro y0 y1 y2 y3 y4 y5
   unfold impl_PartOk.l0
   repeat' first
   | (with_reducible exact ih0 _ _ _ _)
   | (with_reducible exact ih1 _ _ _ _ _ _)
   | (with_reducible exact impl_nameOk.mono _ _)
   | (with_reducible exact slices_ContainsFunc_at_impl_PartOk_1.mono _ _ _)
   | (with_reducible exact LeO.refl _)
   | (with_reducible exact LeO.none _)
   | (with_reducible refine LeO.ite ?_ ?_)
   | (with_reducible refine LeO.bind ?_ (fun _ => ?_))
   | exact ih0 _ _ _ _
   | exact ih1 _ _ _ _ _ _
   | exact impl_nameOk.mono _ _
   | exact slices_ContainsFunc_at_impl_PartOk_1.mono _ _ _
   | exact LeO.none _
   | refine LeO.ite ?_ ?_
   | refine LeO.bind ?_ (fun _ => ?_)
theorem impl_PartOk.mono : ∀ a0 a1 a2 k, LeO (impl_PartOk.f k a0 a1 a2) (impl_PartOk.f (k + 1) a0 a1 a2) := by
 intro a0 a1 a2 k
 obtain ⟨ih0, ih1⟩ := impl_PartOk.mono_l k
 unfold impl_PartOk.f
 repeat' first
   | (with_reducible exact ih0 _ _ _ _)
   | (with_reducible exact ih1 _ _ _ _ _ _)
   | (with_reducible exact impl_nameOk.mono _ _)
   | (with_reducible exact slices_ContainsFunc_at_impl_PartOk_1.mono _ _ _)
   | (with_reducible exact LeO.refl _)
   | (with_reducible exact LeO.none _)
   | (with_reducible refine LeO.ite ?_ ?_)
   | (with_reducible refine LeO.bind ?_ (fun _ => ?_))
   | exact ih0 _ _ _ _
   | exact ih1 _ _ _ _ _ _
   | exact impl_nameOk.mono _ _
   | exact slices_ContainsFunc_at_impl_PartOk_1.mono _ _ _
   | exact LeO.none _
   | refine LeO.ite ?_ ?_
   | refine LeO.bind ?_ (fun _ => ?_)
def impl_PartOk.T6 : Bool × List (List Nat × List Nat) := (true, [([], []), ([0], [0]), ([], []), ([2], [2]), ([3], [3]), ([4], [4]), ([1, 5], [1, 5]), ([6], [6]), ([7, 6], [7]), ([8], [8]), ([9, 8], [8, 9]), ([8], [8]), ([10, 11, 8], [8, 10, 11]), ([8], [8]), ([13, 8], [8, 13]), ([12, 14, 8, 8], [8, 12, 14]), ([8, 15], [8, 15]), ([16, 15], [16]), ([17], [17]), ([18, 17], [17, 18]), ([17], [17]), ([20, 17], [17, 20]), ([19, 21, 17], [17, 19, 21]), ([22, 17], [17, 22]), ([23, 17, 17], [17, 23]), ([24, 17], [17, 24]), ([17, 25], [17, 25]), ([26, 24], [26]), ([27], [27]), ([28, 27], [27, 28]), ([29, 27, 27], [27, 29]), ([30, 27], [27, 30]), ([27, 31], [27, 31])])
def impl_PartOk.B6 : List Nat := [0, 1, 0, 4, 12, 28, 63, 127, 255, 511, 1023, 511, 4095, 511, 8703, 32767, 65535, 131071, 262143, 524287, 262143, 1310719, 4194303, 8388607, 16777215, 33554431, 67108863, 134217727, 268435455, 536870911, 1073741823, 2147483647, 4294967295]
theorem impl_PartOk.tab6 : rtab .any (opsOf Try.f45 6) = impl_PartOk.T6 := by kernel_rfl
theorem impl_PartOk.bits6 : waitsOk impl_PartOk.T6.2 impl_PartOk.B6 = true := by kernel_rfl
set_option maxHeartbeats 8000000 in
set_option maxRecDepth 100000 in
theorem impl_PartOk.calls (k : Nat) (a0_0 : ByteArray) (A0_1 : Option Addr) (c0_1 : Nat) (l0_1 : List (S52)) (A0_2 : Option Addr) (c0_2 : Nat) (l0_2 : List (S56)) (r : Bool) (w : World) (hr0_1 : Kd.C k52 w A0_1 l0_1.length l0_1) (hc0_1 : l0_1.length ≤ c0_1) (hr0_2 : Kd.C k56 w A0_2 l0_2.length l0_2) (hc0_2 : l0_2.length ≤ c0_2) (h : impl_PartOk.f k a0_0 l0_1 l0_2 = some r) :
  Calls Try.prog 45 #[.agg #[.string a0_0, .slice A0_1 l0_1.length c0_1, .slice A0_2 l0_2.length c0_2]] w fun e w' => e = .returned (.bool r) ∧ Below w.heap.size w w' := by
 have hu45 := Try.underlying45
 have hu56 := Try.underlying56
 have hu52 := Try.underlying52
 have HR0_1 := Aside0.mk hr0_1
 have HC0_1 := Aside0.mk hc0_1
 clear hr0_1 hc0_1
 have HR0_2 := Aside0.mk hr0_2
 have HC0_2 := Aside0.mk hc0_2
 clear hr0_2 hc0_2
 have HB := Aside0.mk (Below.refl w.heap.size w)
 have H : ((impl_nameOk.f k a0_0).bind fun t311 => (if t311 = true then ((impl_from.f (l0_1.length : Int) 1 24).bind fun t312 => (if t312 = true then (if (l0_2.length : Int) > 24 then (impl_PartOk.j0 k true a0_0 l0_1 l0_2) else ((slices_ContainsFunc_at_impl_PartOk_1.f k l0_1 0).bind fun t313 => (impl_PartOk.j0 k t313 a0_0 l0_1 l0_2))) else (impl_PartOk.j0 k true a0_0 l0_1 l0_2))) else (impl_PartOk.j0 k true a0_0 l0_1 l0_2))) = some r := h
 clear h
 have HC2 := Aside0.mk H
 clear H
 go_enter Try.func45, Try.ntmps45
 go_upto_region 1 with (first | ((with_reducible refine gate_dst (N := 1) rfl ?_); (try (refine gate_guard (by rfl) ?_; dsimp only)); refine box_event ?hg (N := 1) ?hd (cs := #[.string a0_0, .slice A0_1 l0_1.length c0_1, .slice A0_2 l0_2.length c0_2]) (t := 45) ?hr ?_; (case hd => rfl); (case hg => rfl); (case hr => first | (go_simp; done) | (go_simp; rfl)); intro gb310 hg w3 hbox hb; have n0_ := Aside0.mk (below_step (zB7_0) hb); have n1_ := Aside0.mk (hbox); have n2_ := Aside0.mk ((by rw [hg]; exact (below_size (zB7_0)) : w.heap.size ≤ gb310)); have n3_ := Aside0.mk ((by rw [hg]; exact (below_size (zB7_0)) : w.heap.size ≤ gb310)); clear HB; have HB := n0_; have BK310 := n1_; have GW310 := n2_; have GE310 := n3_; clear n0_ n1_ n2_ n3_; clear hb hbox hg))
 (try simp only [Act.put, List.setIfInBounds_toArray, List.set_cons_zero, List.set_cons_succ])
 go_cut [26] (fun v26 wc => ∃ (kq : Nat) (x26_1 : Bool), v26 = .bool x26_1 ∧ Aside0 (impl_PartOk.j0 kq x26_1 a0_0 l0_1 l0_2 = some r) ∧ Aside0 (kq ≤ k) ∧ Aside0 (wc.heap[gb310]? = some (.cells #[.string a0_0, (.slice A0_1 l0_1.length c0_1), (.slice A0_2 l0_2.length c0_2)] 45 (0, 0))) ∧ Aside0 (Below w.heap.size w wc))
 case first =>
  have H := HC2.out
  clear HC2
  replace H := Option.bind_eq_some_iff.mp H
  obtain ⟨t311, A40, H⟩ := H
  replace H : (if t311 = true then ((impl_from.f (l0_1.length : Int) 1 24).bind fun t312 => (if t312 = true then (if (l0_2.length : Int) > 24 then (impl_PartOk.j0 k true a0_0 l0_1 l0_2) else ((slices_ContainsFunc_at_impl_PartOk_1.f k l0_1 0).bind fun t313 => (impl_PartOk.j0 k t313 a0_0 l0_1 l0_2))) else (impl_PartOk.j0 k true a0_0 l0_1 l0_2))) else (impl_PartOk.j0 k true a0_0 l0_1 l0_2)) = some r := H
  have A4 := Aside0.mk A40
  clear A40
  by_cases c5 : t311 = true
  rotate_left
  ·replace c5 := Bool.eq_false_iff.mpr c5
   subst c5
   have H1 : (impl_PartOk.j0 k true a0_0 l0_1 l0_2) = some r := by rw [if_neg (show ¬ (false = true) by decide)] at H; exact H
   clear H
   have H := H1
   clear H1
   have H' := Aside0.mk H
   clear H
   obtain ⟨hcz14_0, hcz14_1, hcz14_2, hfz14_0, hfz14_1, hfz14_2⟩ := zc7_3 (w := w3) BK310.out
   go_wp2_with (first | ((with_reducible refine gate_callee (f := 106) rfl ?_); refine goesL_ (some 7) rfl rfl Try.func106 (by kernel_rfl) rfl #[.string a0_0] rfl zT7 ?_; (with_reducible refine (impl_nameOk.calls k a0_0 false _ A4.out).mono ?_); rintro e w' ⟨rfl, ⟨nd, rfl⟩⟩; refine ⟨_, rfl, ?_⟩))
   go_meet
   case rel => exact ⟨_, (true), (by first | rfl | (simp; done) | (simp [*]; done)), H', ⟨by first | omega | exact Nat.le_refl _⟩, ⟨zK7 BK310.out⟩, ⟨zB7_1⟩⟩
  subst c5
  have H1 : ((impl_from.f (l0_1.length : Int) 1 24).bind fun t312 => (if t312 = true then (if (l0_2.length : Int) > 24 then (impl_PartOk.j0 k true a0_0 l0_1 l0_2) else ((slices_ContainsFunc_at_impl_PartOk_1.f k l0_1 0).bind fun t313 => (impl_PartOk.j0 k t313 a0_0 l0_1 l0_2))) else (impl_PartOk.j0 k true a0_0 l0_1 l0_2))) = some r := by rw [if_pos rfl] at H; exact H
  clear H
  have H := H1
  clear H1
  replace H := Option.bind_eq_some_iff.mp H
  obtain ⟨t312, A60, H⟩ := H
  replace H : (if t312 = true then (if (l0_2.length : Int) > 24 then (impl_PartOk.j0 k true a0_0 l0_1 l0_2) else ((slices_ContainsFunc_at_impl_PartOk_1.f k l0_1 0).bind fun t313 => (impl_PartOk.j0 k t313 a0_0 l0_1 l0_2))) else (impl_PartOk.j0 k true a0_0 l0_1 l0_2)) = some r := H
  have A6 := Aside0.mk A60
  clear A60
  by_cases c7 : t312 = true
  rotate_left
  ·replace c7 := Bool.eq_false_iff.mpr c7
   subst c7
   have H1 : (impl_PartOk.j0 k true a0_0 l0_1 l0_2) = some r := by rw [if_neg (show ¬ (false = true) by decide)] at H; exact H
   clear H
   have H := H1
   clear H1
   have H' := Aside0.mk H
   clear H
   obtain ⟨hcz13_0, hcz13_1, hcz13_2, hfz13_0, hfz13_1, hfz13_2⟩ := zc7_3 (w := w3) BK310.out
   go_wp2_with (first | ((with_reducible refine gate_callee (f := 106) rfl ?_); refine goesL_ (some 7) rfl rfl Try.func106 (by kernel_rfl) rfl #[.string a0_0] rfl zT7 ?_; (with_reducible refine (impl_nameOk.calls k a0_0 true _ A4.out).mono ?_); rintro e w' ⟨rfl, ⟨nd, rfl⟩⟩; refine ⟨_, rfl, ?_⟩) | (go_at_call 107; (with_reducible refine (impl_from.calls (l0_1.length : Int) 1 24 false _ A6.out).mono ?_); rintro e w' ⟨rfl, ⟨nd, rfl⟩⟩))
   go_meet
   case rel => exact ⟨_, (true), (by first | rfl | (simp; done) | (simp [*]; done)), H', ⟨by first | omega | exact Nat.le_refl _⟩, ⟨zK7 BK310.out⟩, ⟨zB7_1⟩⟩
  subst c7
  have H1 : (if (l0_2.length : Int) > 24 then (impl_PartOk.j0 k true a0_0 l0_1 l0_2) else ((slices_ContainsFunc_at_impl_PartOk_1.f k l0_1 0).bind fun t313 => (impl_PartOk.j0 k t313 a0_0 l0_1 l0_2))) = some r := by rw [if_pos rfl] at H; exact H
  clear H
  have H := H1
  clear H1
  by_cases c8 : (l0_2.length : Int) > 24
  ·rw [if_pos c8] at H
   have c8b0 : decide (24 < (l0_2.length : Int)) = true := decide_eq_true c8
   have c8b1 : decide (24 < l0_2.length) = true := decide_eq_true (by omega)
   clear c8
   (first | rw [c8b0] | (simp only [i64_w, i32_w]; rw [c8b0]) | skip)
   have H' := Aside0.mk H
   clear H
   obtain ⟨hcz9_0, hcz9_1, hcz9_2, hfz9_0, hfz9_1, hfz9_2⟩ := zc7_3 (w := w3) BK310.out
   go_wp2_with (first | ((with_reducible refine gate_callee (f := 106) rfl ?_); refine goesL_ (some 7) rfl rfl Try.func106 (by kernel_rfl) rfl #[.string a0_0] rfl zT7 ?_; (with_reducible refine (impl_nameOk.calls k a0_0 true _ A4.out).mono ?_); rintro e w' ⟨rfl, ⟨nd, rfl⟩⟩; refine ⟨_, rfl, ?_⟩) | (go_at_call 107; (with_reducible refine (impl_from.calls (l0_1.length : Int) 1 24 true _ A6.out).mono ?_); rintro e w' ⟨rfl, ⟨nd, rfl⟩⟩))
   go_meet
   case rel => exact ⟨_, (true), (by first | rfl | (simp; done) | (simp [*]; done)), H', ⟨by first | omega | exact Nat.le_refl _⟩, ⟨zK7 BK310.out⟩, ⟨zB7_1⟩⟩
  rw [if_neg c8] at H
  have c8b0 : decide (24 < (l0_2.length : Int)) = false := decide_eq_false c8
  have c8b1 : decide (24 < l0_2.length) = false := decide_eq_false (by omega)
  clear c8
  (first | rw [c8b0] | (simp only [i64_w, i32_w]; rw [c8b0]) | skip)
  replace H := Option.bind_eq_some_iff.mp H
  obtain ⟨t313, A100, H⟩ := H
  replace H : (impl_PartOk.j0 k t313 a0_0 l0_1 l0_2) = some r := H
  have A10 := Aside0.mk A100
  clear A100
  have H' := Aside0.mk H
  clear H
  obtain ⟨hcz11_0, hcz11_1, hcz11_2, hfz11_0, hfz11_1, hfz11_2⟩ := zc7_3 (w := w3) BK310.out
  go_wp2_with (first | ((with_reducible refine gate_callee (f := 106) rfl ?_); refine goesL_ (some 7) rfl rfl Try.func106 (by kernel_rfl) rfl #[.string a0_0] rfl zT7 ?_; (with_reducible refine (impl_nameOk.calls k a0_0 true _ A4.out).mono ?_); rintro e w' ⟨rfl, ⟨nd, rfl⟩⟩; refine ⟨_, rfl, ?_⟩) | (go_at_call 107; (with_reducible refine (impl_from.calls (l0_1.length : Int) 1 24 true _ A6.out).mono ?_); rintro e w' ⟨rfl, ⟨nd, rfl⟩⟩) | (go_at_call 108; (with_reducible refine (slices_ContainsFunc_at_impl_PartOk_1.calls k _ _ l0_1 0 t313 _ ?side1 ?side2 A10.out).mono ?_); (case side1 => repeat (first | exact (Kd.C_below HR0_1.out (zB7_1)) | (with_reducible refine Kd.C_alloc ?_ _) | (with_reducible refine Kd.C_drewN ?_ _) | (with_reducible refine Kd.C_drew ?_))); (case side2 => exact HC0_1.out); rintro e w12 ⟨rfl, hb⟩; have n0_ := Aside0.mk (zb7 BK310.out hb); have n1_ := Aside0.mk (below_step (zB7_1) hb); clear BK310; clear HB; have BK310 := n0_; have HB := n1_; clear n0_ n1_; (try clear hb); (try clear hb2); (try clear hk); (try clear hi)))
  go_meet
  case rel => exact ⟨_, (t313), (by first | rfl | (simp; done) | (simp [*]; done)), H', ⟨by first | omega | exact Nat.le_refl _⟩, ⟨zK7 BK310.out⟩, ⟨zB7_1⟩⟩
 case rest =>
  clear HC2
  try clear c1
  try clear p2
  try clear c4
  try clear c5
  try clear c7
  try clear c8
  try clear c8b0
  try clear c8b1
  try clear c10
  try clear hcz11_0
  try clear hcz11_1
  try clear hcz11_2
  try clear hcz13_0
  try clear hcz13_1
  try clear hcz13_2
  try clear hcz14_0
  try clear hcz14_1
  try clear hcz14_2
  try clear hcz9_0
  try clear hcz9_1
  try clear hcz9_2
  try clear hfz11_0
  try clear hfz11_1
  try clear hfz11_2
  try clear hfz13_0
  try clear hfz13_1
  try clear hfz13_2
  try clear hfz14_0
  try clear hfz14_1
  try clear hfz14_2
  try clear hfz9_0
  try clear hfz9_1
  try clear hfz9_2
  obtain ⟨kq, x26_1, rfl, HA, HJ1, BK310, HB⟩ := hcut
  cases kq with
  | zero => exact absurd HA.out (by simp [impl_PartOk.j0])
  | succ kj1 =>
   have H := HA.out
   clear HA
   simp only [impl_PartOk.j0] at H
   by_cases c15 : x26_1 = true
   ·subst c15
    have H1 : (some false) = some r := by rw [if_pos rfl] at H; exact H
    clear H
    have H := H1
    clear H1
    obtain rfl := Option.some.inj H
    go_wp2
    go_ret
    exact ⟨zE7, zB7_1⟩
   replace c15 := Bool.eq_false_iff.mpr c15
   subst c15
   have H1 : (impl_PartOk.l0 kj1 l0_2 (l0_2.length : Int) 0 a0_0 l0_1 l0_2) = some r := by rw [if_neg (show ¬ (false = true) by decide)] at H; exact H
   clear H
   have H := H1
   clear H1
   have H' := Aside0.mk H
   clear H
   obtain ⟨hcz16_0, hcz16_1, hcz16_2, hfz16_0, hfz16_1, hfz16_2⟩ := zc7_3 (w := wc) BK310.out
   go_wp2
   go_loopg [30] kj1 (fun kq v30 w' => ∃ (x30_2 : Int), v30 = .int .i64 x30_2 ∧ Aside0 (impl_PartOk.l0 kq l0_2 (l0_2.length : Int) x30_2 a0_0 l0_1 l0_2 = some r) ∧ Aside0 (kq ≤ kj1) ∧ Aside0 (w'.heap[gb310]? = some (.cells #[.string a0_0, (.slice A0_1 l0_1.length c0_1), (.slice A0_2 l0_2.length c0_2)] 45 (0, 0))) ∧ Aside0 (Below w.heap.size w w'))
   case atStart => exact ⟨(0), (by first | rfl | (simp; done) | (simp [*]; done)), H', ⟨Nat.le_refl _⟩, ⟨zK7 BK310.out⟩, ⟨zB7_1⟩⟩
   case round =>
    clear H'
    try clear c1
    try clear p2
    try clear c4
    try clear c5
    try clear c7
    try clear c8
    try clear c8b0
    try clear c8b1
    try clear c10
    try clear c15
    try clear hcz11_0
    try clear hcz11_1
    try clear hcz11_2
    try clear hcz13_0
    try clear hcz13_1
    try clear hcz13_2
    try clear hcz14_0
    try clear hcz14_1
    try clear hcz14_2
    try clear hcz16_0
    try clear hcz16_1
    try clear hcz16_2
    try clear hcz9_0
    try clear hcz9_1
    try clear hcz9_2
    try clear hfz11_0
    try clear hfz11_1
    try clear hfz11_2
    try clear hfz13_0
    try clear hfz13_1
    try clear hfz13_2
    try clear hfz14_0
    try clear hfz14_1
    try clear hfz14_2
    try clear hfz16_0
    try clear hfz16_1
    try clear hfz16_2
    try clear hfz9_0
    try clear hfz9_1
    try clear hfz9_2
    try clear p2
    obtain ⟨x30_2, rfl, HA, HK2, BK310, HB⟩ := hrel
    cases gk with
    | zero => exact absurd HA.out (by simp [impl_PartOk.l0])
    | succ k2 =>
     have H := HA.out
     clear HA
     simp only [impl_PartOk.l0] at H
     by_cases c17 : x30_2 < (l0_2.length : Int)
     rotate_left
     ·rw [if_neg c17] at H
      have c17b0 : decide (x30_2 < (l0_2.length : Int)) = false := decide_eq_false c17
      clear c17
      obtain rfl := Option.some.inj H
      go_wp2
      go_ret
      exact ⟨zE7, zB7_1⟩
     rw [if_pos c17] at H
     have c17b0 : decide (x30_2 < (l0_2.length : Int)) = true := decide_eq_true c17
     clear c17
     by_cases c18 : 0 ≤ x30_2
     rotate_left
     ·rw [if_neg c18] at H
      exact absurd H (by simp)
     rw [if_pos c18] at H
     have c18b0 : decide (0 ≤ x30_2) = true := decide_eq_true c18
     clear c18
     by_cases c19 : x30_2 < (l0_2.length : Int)
     rotate_left
     ·rw [if_neg c19] at H
      exact absurd H (by simp)
     rw [if_pos c19] at H
     have c19b0 : decide (x30_2 < (l0_2.length : Int)) = true := decide_eq_true c19
     clear c19
     replace H := Option.bind_eq_some_iff.mp H
     obtain ⟨t316, A200, H⟩ := H
     replace H : (if t316 = true then (if x30_2 ≤ (l0_2.length : Int) then ((impl_isRef.f (l0_2.take (x30_2 : Int).toNat) ((rd_T56 l0_2 x30_2).f0)).bind fun t321 => (if t321 = true then (some false) else (if 0 ≤ ((rd_T56 l0_2 x30_2).f0) then (if ((rd_T56 l0_2 x30_2).f0) < (l0_1.length : Int) then ((impl_goesTo.f ((rd_T52 l0_1 ((rd_T56 l0_2 x30_2).f0)).f0) ((rd_T52 l0_1 ((rd_T56 l0_2 x30_2).f0)).f1) ((rd_T52 l0_1 ((rd_T56 l0_2 x30_2).f0)).f2) ((rd_T52 l0_1 ((rd_T56 l0_2 x30_2).f0)).f3) ((rd_T52 l0_1 ((rd_T56 l0_2 x30_2).f0)).f4)).bind fun t323 => (if t323 = true then ((impl_nameOk.f k2 ((rd_T56 l0_2 x30_2).f1)).bind fun t324 => (if t324 = true then (impl_PartOk.l0 k2 l0_2 (l0_2.length : Int) (wrap64 (x30_2 + 1)) a0_0 l0_1 l0_2) else (some false))) else (some false))) else (none)) else (none)))) else (none)) else (some false)) = some r := H
     have A20 := Aside0.mk A200
     clear A200
     by_cases c21 : t316 = true
     rotate_left
     ·replace c21 := Bool.eq_false_iff.mpr c21
      subst c21
      have H1 : (some false) = some r := by rw [if_neg (show ¬ (false = true) by decide)] at H; exact H
      clear H
      have H := H1
      clear H1
      obtain rfl := Option.some.inj H
      have p314 : 0 ≤ (x30_2 : Int) := zA7
      have q314 : x30_2 < (l0_2.length : Int) := zA7
      obtain ⟨ad314, e314, hx314_0, hx314_1⟩ := at_T56 HR0_2.out x30_2 p314 q314
      cases e314
      replace hx314_0 := (HB.out.cell (World.block_lt_of_cell? w _ hx314_0)).trans hx314_0
      replace hx314_1 := (HB.out.cell (World.block_lt_of_cell? w _ hx314_1)).trans hx314_1
      replace p314 := eq_true p314
      replace q314 := eq_true q314
      try go_wp2_with (first | ((with_reducible refine gate_dst (N := 4) rfl ?_); (try (refine gate_guard (by rfl) ?_; dsimp only)); refine box_event ?hg (N := 4) ?hd (cs := #[.int .i64 0, .string (⟨#[]⟩ : ByteArray)]) (t := 56) ?hr ?_; (case hd => rfl); (case hg => rfl); (case hr => first | (go_simp; done) | (go_simp; rfl)); intro gb315 hg w63 hbox hb; have n0_ := Aside0.mk (zb7 BK310.out hb); have n1_ := Aside0.mk (below_step (zB7_1) hb); have n2_ := Aside0.mk (hbox); have n3_ := Aside0.mk ((by rw [hg]; exact (below_size (zB7_1)) : w.heap.size ≤ gb315)); have n4_ := Aside0.mk ((by rw [hg]; exact (below_size (zB7_1)) : w.heap.size ≤ gb315)); have n5_ := Aside0.mk ((zn7 BK310.out hg : gb310 ≠ gb315)); have n6_ := Aside0.mk ((zm7 BK310.out hg : gb315 ≠ gb310)); clear BK310; clear HB; have BK310 := n0_; have HB := n1_; have BK315 := n2_; have GW315 := n3_; have GE315 := n4_; have NB310_315 := n5_; have NB315_310 := n6_; clear n0_ n1_ n2_ n3_ n4_ n5_ n6_; clear hb hbox hg; have hnb64 := NB315_310.out; have hnc64 := NB310_315.out; obtain ⟨hcz65_0, hcz65_1, hfz65_0, hfz65_1⟩ := zc7_2 (w := w63) BK315.out))
      have n0_ : Aside0 (((w63.setCell ⟨gb315, 0, none⟩ (.int .i64 ((rd_T56 l0_2 x30_2).f0))).setCell ⟨gb315, 1, none⟩ (.string ((rd_T56 l0_2 x30_2).f1))).heap[gb310]? = some (.cells #[.string a0_0, .slice A0_1 l0_1.length c0_1, .slice (some ad314) l0_2.length c0_2] 45 (0, 0))) := ⟨by refine zP7 ?_; refine blk_far ?_ NB310_315.out _; refine zP7 ?_; refine blk_far ?_ NB310_315.out _; refine zP7 ?_; exact BK310.out⟩
      have n1_ : Aside0 (((w63.setCell ⟨gb315, 0, none⟩ (.int .i64 ((rd_T56 l0_2 x30_2).f0))).setCell ⟨gb315, 1, none⟩ (.string ((rd_T56 l0_2 x30_2).f1))).heap[gb315]? = some (.cells #[.int .i64 ((rd_T56 l0_2 x30_2).f0), .string ((rd_T56 l0_2 x30_2).f1)] 56 (0, 0))) := ⟨by refine zP7 ?_; refine blk_put (cs := #[.int .i64 ((rd_T56 l0_2 x30_2).f0), .string (⟨#[]⟩ : ByteArray)]) ?_ 1 _ rfl; refine zP7 ?_; refine blk_put (cs := #[.int .i64 0, .string (⟨#[]⟩ : ByteArray)]) ?_ 0 _ rfl; refine zP7 ?_; exact BK315.out⟩
      have n2_ : Aside0 (Below w.heap.size w ((w63.setCell ⟨gb315, 0, none⟩ (.int .i64 ((rd_T56 l0_2 x30_2).f0))).setCell ⟨gb315, 1, none⟩ (.string ((rd_T56 l0_2 x30_2).f1)))) := ⟨zB7_2⟩
      (try clear BK310)
      (try clear BK315)
      (try clear HB)
      generalize ((w63.setCell ⟨gb315, 0, none⟩ (.int .i64 ((rd_T56 l0_2 x30_2).f0))).setCell ⟨gb315, 1, none⟩ (.string ((rd_T56 l0_2 x30_2).f1))) = w66 at n0_ n1_ n2_ ⊢
      have BK310 := n0_
      have BK315 := n1_
      have HB := n2_
      clear n0_ n1_ n2_
      have n0_ := Aside0.mk (blk_drew BK310.out)
      have n1_ := Aside0.mk (blk_drew BK315.out)
      have n2_ := Aside0.mk (below_drew1 HB.out)
      clear BK310 BK315 HB
      have BK310 := n0_
      have BK315 := n1_
      have HB := n2_
      clear n0_ n1_ n2_
      refine start_ (n := 33) (S := fun w' => w'.cell? ⟨gb315, 0, none⟩ = some (.int .i64 ((rd_T56 l0_2 x30_2).f0)) ∧ w'.cell? ⟨gb315, 1, none⟩ = some (.string ((rd_T56 l0_2 x30_2).f1)) ∧ w'.cell? ⟨gb310, 0, none⟩ = some (.string a0_0) ∧ w'.cell? ⟨gb310, 1, none⟩ = some (.slice A0_1 l0_1.length c0_1) ∧ w'.cell? ⟨gb310, 2, none⟩ = some (.slice (some ad314) l0_2.length c0_2)) (ds := []) zq7_0 (by kernel_rfl) rfl rfl ⟨(blk_cell BK315.out 0).trans rfl, (blk_cell BK315.out 1).trans rfl, (blk_cell BK310.out 0).trans rfl, (blk_cell BK310.out 1).trans rfl, (blk_cell BK310.out 2).trans rfl⟩ (fun hHeld => ?_); refine with_tabW impl_PartOk.tab6 impl_PartOk.bits6 (fun HT_ HW_ => ?_)
      generalize w66.drew = w67 at BK310 BK315 HB hHeld ⊢
      refine pure_ (i := 0) (N := some 35) (v := ?_) (a' := ?_) zq7_1 rfl rfl (any_of HT_.out (by kernel_rfl)) (fun _ _ _ h => h) (Or.inl ⟨by rfl, ?_⟩) ?_ ?_
      rotate_left
      ·intro w'
       go_simp
       with_reducible rfl
      rotate_left
      ·exact zV7
      refine pure_ (i := 2) (N := some 37) (v := ?_) (a' := ?_) zq7_2 rfl rfl (any_of HT_.out (by kernel_rfl)) (fun _ _ _ h => h) (Or.inl ⟨by rfl, ?_⟩) ?_ ?_
      rotate_left
      ·intro w'
       go_simp
       with_reducible rfl
      rotate_left
      ·exact zV7
      refine take_ (i := 1) (N := some 36) (v := ?_) (a' := ?_) zq7_3 rfl rfl (take_ofW HT_.out HW_.out (by kernel_rfl)) (fun _ _ _ h => h) (Or.inl ⟨by rfl, ?_⟩) hHeld ?_ ?_
      rotate_left
      ·rintro w' ⟨s0, s1, s2, s3, s4⟩
       go_simp
       with_reducible rfl
      rotate_left
      ·exact zV7
      refine take_ (i := 3) (N := some 38) (v := ?_) (a' := ?_) zq7_4 rfl rfl (take_ofW HT_.out HW_.out (by kernel_rfl)) (fun _ _ _ h => h) (Or.inl ⟨by rfl, ?_⟩) hHeld ?_ ?_
      rotate_left
      ·rintro w' ⟨s0, s1, s2, s3, s4⟩
       go_simp
       with_reducible rfl
      rotate_left
      ·exact zV7
      refine pure_ (i := 4) (N := some 39) (v := ?_) (a' := ?_) zq7_5 rfl rfl (any_of HT_.out (by kernel_rfl)) (fun _ _ _ h => h) (Or.inl ⟨by rfl, ?_⟩) ?_ ?_
      rotate_left
      ·intro w'
       go_simp
       with_reducible rfl
      rotate_left
      ·exact zV7
      refine pure_ (i := 5) (N := some 40) (v := ?_) (a' := ?_) zq7_6 rfl rfl (any_of HT_.out (by kernel_rfl)) (fun _ _ _ h => h) (Or.inl ⟨by rfl, ?_⟩) ?_ ?_
      rotate_left
      ·intro w'
       go_simp
       with_reducible rfl
      rotate_left
      ·exact zV7
      refine one_ (i := 6) (N := some 41) zq7_7 rfl rfl (one_of HT_.out (by kernel_rfl)) (by decide) (fun K hK => ?_)
      refine goes_ Try.func107 (by kernel_rfl) rfl #[.int .i64 ((rd_T56 l0_2 x30_2).f0), .int .i64 0, .int .i64 (wrap64 ((l0_1.length : Int) - 1))] (by rfl) rfl rfl zT7 ?_
      with_reducible refine (impl_from.calls ((rd_T56 l0_2 x30_2).f0) 0 (wrap64 ((l0_1.length : Int) - 1)) false _ A20.out).mono ?_
      rintro e w' ⟨rfl, ⟨nd, rfl⟩⟩
      refine ⟨_, rfl, ?_⟩
      refine hK.out _ _ ⟨(blk_cell BK315.out 0).trans rfl, (blk_cell BK315.out 1).trans rfl, (blk_cell BK310.out 0).trans rfl, (blk_cell BK310.out 1).trans rfl, (blk_cell BK310.out 2).trans rfl⟩ (fun hHeld => ?_)
      clear hK K
      refine norm_ (a' := ?_) ?_ ?_
      rotate_left
      ·show Act.put _ (some 41) _ = _
       simp only [Act.put, List.setIfInBounds_toArray, List.set_cons_zero, List.set_cons_succ, i64_w, i32_w]
       rfl
      refine pure_ (i := 7) (N := some 42) (v := ?_) (a' := ?_) zq7_8 rfl rfl (any_of HT_.out (by kernel_rfl)) (fun _ _ _ h => h) (Or.inl ⟨by rfl, ?_⟩) ?_ ?_
      rotate_left
      ·intro w'
       go_simp
       with_reducible rfl
      rotate_left
      ·exact zV7
      refine pure_ (i := 8) (N := some 43) (v := ?_) (a' := ?_) zq7_9 rfl rfl (any_of HT_.out (by kernel_rfl)) (fun _ _ _ h => h) (Or.inl ⟨by rfl, ?_⟩) ?_ ?_
      rotate_left
      ·intro w'
       go_simp
       with_reducible rfl
      rotate_left
      ·exact zV7
      refine pure_ (i := 9) (N := some 44) (v := undef) (a' := ?_) zq7_10 rfl rfl (any_of HT_.out (by kernel_rfl)) (fun _ _ _ h => h) (Or.inr ⟨by rfl, rfl⟩) ?_ ?_
      rotate_left
      ·exact zV7
      refine pure_ (i := 10) (N := some 45) (v := undef) (a' := ?_) #[true, true, true, true, true, true, true, true, true, true, true, false, false, false, false, false, false, false, false, false, false, false, false, false, false, false, false, false, false, false, false, false, false] rfl rfl (any_of HT_.out (by kernel_rfl)) (fun _ _ _ h => h) (Or.inr ⟨by rfl, rfl⟩) ?_ ?_
      rotate_left
      ·exact zV7
      refine pure_ (i := 11) (N := some 46) (v := undef) (a' := ?_) #[true, true, true, true, true, true, true, true, true, true, true, true, false, false, false, false, false, false, false, false, false, false, false, false, false, false, false, false, false, false, false, false, false] rfl rfl (any_of HT_.out (by kernel_rfl)) (fun _ _ _ h => h) (Or.inr ⟨by rfl, rfl⟩) ?_ ?_
      rotate_left
      ·exact zV7
      refine pure_ (i := 12) (N := some 47) (v := undef) (a' := ?_) #[true, true, true, true, true, true, true, true, true, true, true, true, true, false, false, false, false, false, false, false, false, false, false, false, false, false, false, false, false, false, false, false, false] rfl rfl (any_of HT_.out (by kernel_rfl)) (fun _ _ _ h => h) (Or.inr ⟨by rfl, rfl⟩) ?_ ?_
      rotate_left
      ·exact zV7
      refine pure_ (i := 13) (N := some 48) (v := undef) (a' := ?_) zq7_14 rfl rfl (any_of HT_.out (by kernel_rfl)) (fun _ _ _ h => h) (Or.inr ⟨by rfl, rfl⟩) ?_ ?_
      rotate_left
      ·exact zV7
      refine pure_ (i := 14) (N := some 49) (v := undef) (a' := ?_) zq7_15 rfl rfl (any_of HT_.out (by kernel_rfl)) (fun _ _ _ h => h) (Or.inr ⟨by rfl, rfl⟩) ?_ ?_
      rotate_left
      ·exact zV7
      refine pure_ (i := 15) (N := some 50) (v := undef) (a' := ?_) zq7_16 rfl rfl (any_of HT_.out (by kernel_rfl)) (fun _ _ _ h => h) (Or.inr ⟨by rfl, rfl⟩) ?_ ?_
      rotate_left
      ·exact zV7
      refine pure_ (i := 16) (N := some 51) (v := ?_) (a' := ?_) zq7_17 rfl rfl (any_of HT_.out (by kernel_rfl)) (fun _ _ _ h => h) (Or.inl ⟨by rfl, ?_⟩) ?_ ?_
      rotate_left
      ·intro w'
       go_simp
       with_reducible rfl
      rotate_left
      ·exact zV7
      refine pure_ (i := 17) (N := some 52) (v := ?_) (a' := ?_) zq7_18 rfl rfl (any_of HT_.out (by kernel_rfl)) (fun _ _ _ h => h) (Or.inl ⟨by rfl, ?_⟩) ?_ ?_
      rotate_left
      ·intro w'
       go_simp
       with_reducible rfl
      rotate_left
      ·exact zV7
      refine pure_ (i := 18) (N := some 53) (v := undef) (a' := ?_) zq7_19 rfl rfl (any_of HT_.out (by kernel_rfl)) (fun _ _ _ h => h) (Or.inr ⟨by rfl, rfl⟩) ?_ ?_
      rotate_left
      ·exact zV7
      refine pure_ (i := 19) (N := some 54) (v := undef) (a' := ?_) zq7_20 rfl rfl (any_of HT_.out (by kernel_rfl)) (fun _ _ _ h => h) (Or.inr ⟨by rfl, rfl⟩) ?_ ?_
      rotate_left
      ·exact zV7
      refine pure_ (i := 20) (N := some 55) (v := undef) (a' := ?_) zq7_21 rfl rfl (any_of HT_.out (by kernel_rfl)) (fun _ _ _ h => h) (Or.inr ⟨by rfl, rfl⟩) ?_ ?_
      rotate_left
      ·exact zV7
      refine pure_ (i := 21) (N := some 56) (v := undef) (a' := ?_) zq7_22 rfl rfl (any_of HT_.out (by kernel_rfl)) (fun _ _ _ h => h) (Or.inr ⟨by rfl, rfl⟩) ?_ ?_
      rotate_left
      ·exact zV7
      refine pure_ (i := 22) (N := some 57) (v := undef) (a' := ?_) zq7_23 rfl rfl (any_of HT_.out (by kernel_rfl)) (fun _ _ _ h => h) (Or.inr ⟨by rfl, rfl⟩) ?_ ?_
      rotate_left
      ·exact zV7
      refine pure_ (i := 23) (N := some 58) (v := undef) (a' := ?_) zq7_24 rfl rfl (any_of HT_.out (by kernel_rfl)) (fun _ _ _ h => h) (Or.inr ⟨by rfl, rfl⟩) ?_ ?_
      rotate_left
      ·exact zV7
      refine pure_ (i := 24) (N := some 59) (v := undef) (a' := ?_) zq7_25 rfl rfl (any_of HT_.out (by kernel_rfl)) (fun _ _ _ h => h) (Or.inr ⟨by rfl, rfl⟩) ?_ ?_
      rotate_left
      ·exact zV7
      refine pure_ (i := 25) (N := some 60) (v := undef) (a' := ?_) zq7_26 rfl rfl (any_of HT_.out (by kernel_rfl)) (fun _ _ _ h => h) (Or.inr ⟨by rfl, rfl⟩) ?_ ?_
      rotate_left
      ·exact zV7
      refine pure_ (i := 26) (N := some 61) (v := ?_) (a' := ?_) zq7_27 rfl rfl (any_of HT_.out (by kernel_rfl)) (fun _ _ _ h => h) (Or.inl ⟨by rfl, ?_⟩) ?_ ?_
      rotate_left
      ·intro w'
       go_simp
       with_reducible rfl
      rotate_left
      ·exact zV7
      refine pure_ (i := 27) (N := some 62) (v := ?_) (a' := ?_) zq7_28 rfl rfl (any_of HT_.out (by kernel_rfl)) (fun _ _ _ h => h) (Or.inl ⟨by rfl, ?_⟩) ?_ ?_
      rotate_left
      ·intro w'
       go_simp
       with_reducible rfl
      rotate_left
      ·exact zV7
      refine pure_ (i := 28) (N := some 63) (v := undef) (a' := ?_) zq7_29 rfl rfl (any_of HT_.out (by kernel_rfl)) (fun _ _ _ h => h) (Or.inr ⟨by rfl, rfl⟩) ?_ ?_
      rotate_left
      ·exact zV7
      refine pure_ (i := 29) (N := some 64) (v := undef) (a' := ?_) zq7_30 rfl rfl (any_of HT_.out (by kernel_rfl)) (fun _ _ _ h => h) (Or.inr ⟨by rfl, rfl⟩) ?_ ?_
      rotate_left
      ·exact zV7
      refine pure_ (i := 30) (N := some 65) (v := undef) (a' := ?_) zq7_31 rfl rfl (any_of HT_.out (by kernel_rfl)) (fun _ _ _ h => h) (Or.inr ⟨by rfl, rfl⟩) ?_ ?_
      rotate_left
      ·exact zV7
      refine pure_ (i := 31) (N := some 66) (v := undef) (a' := ?_) zq7_32 rfl rfl (any_of HT_.out (by kernel_rfl)) (fun _ _ _ h => h) (Or.inr ⟨by rfl, rfl⟩) ?_ ?_
      rotate_left
      ·exact zV7
      refine pure_ (i := 32) (N := some 67) (v := ?_) (a' := ?_) zq7_33 rfl rfl (any_of HT_.out (by kernel_rfl)) (fun _ _ _ h => h) (Or.inl ⟨by rfl, ?_⟩) ?_ ?_
      rotate_left
      ·intro w'
       go_simp
       with_reducible rfl
      rotate_left
      ·exact zV7
      refine done_ (done_of HT_.out (by kernel_rfl)) ?_
      try go_wp2
      go_ret
      exact ⟨zE7, zB7_2⟩
     subst c21
     have H1 : (if x30_2 ≤ (l0_2.length : Int) then ((impl_isRef.f (l0_2.take (x30_2 : Int).toNat) ((rd_T56 l0_2 x30_2).f0)).bind fun t321 => (if t321 = true then (some false) else (if 0 ≤ ((rd_T56 l0_2 x30_2).f0) then (if ((rd_T56 l0_2 x30_2).f0) < (l0_1.length : Int) then ((impl_goesTo.f ((rd_T52 l0_1 ((rd_T56 l0_2 x30_2).f0)).f0) ((rd_T52 l0_1 ((rd_T56 l0_2 x30_2).f0)).f1) ((rd_T52 l0_1 ((rd_T56 l0_2 x30_2).f0)).f2) ((rd_T52 l0_1 ((rd_T56 l0_2 x30_2).f0)).f3) ((rd_T52 l0_1 ((rd_T56 l0_2 x30_2).f0)).f4)).bind fun t323 => (if t323 = true then ((impl_nameOk.f k2 ((rd_T56 l0_2 x30_2).f1)).bind fun t324 => (if t324 = true then (impl_PartOk.l0 k2 l0_2 (l0_2.length : Int) (wrap64 (x30_2 + 1)) a0_0 l0_1 l0_2) else (some false))) else (some false))) else (none)) else (none)))) else (none)) = some r := by rw [if_pos rfl] at H; exact H
     clear H
     have H := H1
     clear H1
     have c22b0 := eq_true (zA7 : 0 ≤ x30_2)
     by_cases c23 : x30_2 ≤ (l0_2.length : Int)
     rotate_left
     ·rw [if_neg c23] at H
      exact absurd H (by simp)
     rw [if_pos c23] at H
     have c23b0 := eq_true c23
     have c23b1 : decide (x30_2 ≤ (l0_2.length : Int)) = true := decide_eq_true c23
     clear c23
     obtain ⟨y317, hy317⟩ : ∃ y_ : List (S56), y_ = (l0_2.take (x30_2 : Int).toNat) := ⟨_, rfl⟩
     replace H : ((impl_isRef.f y317 ((rd_T56 l0_2 x30_2).f0)).bind fun t321 => (if t321 = true then (some false) else (if 0 ≤ ((rd_T56 l0_2 x30_2).f0) then (if ((rd_T56 l0_2 x30_2).f0) < (l0_1.length : Int) then ((impl_goesTo.f ((rd_T52 l0_1 ((rd_T56 l0_2 x30_2).f0)).f0) ((rd_T52 l0_1 ((rd_T56 l0_2 x30_2).f0)).f1) ((rd_T52 l0_1 ((rd_T56 l0_2 x30_2).f0)).f2) ((rd_T52 l0_1 ((rd_T56 l0_2 x30_2).f0)).f3) ((rd_T52 l0_1 ((rd_T56 l0_2 x30_2).f0)).f4)).bind fun t323 => (if t323 = true then ((impl_nameOk.f k2 ((rd_T56 l0_2 x30_2).f1)).bind fun t324 => (if t324 = true then (impl_PartOk.l0 k2 l0_2 (l0_2.length : Int) (wrap64 (x30_2 + 1)) a0_0 l0_1 l0_2) else (some false))) else (some false))) else (none)) else (none)))) = some r := by first | (rw [hy317]; with_reducible exact H) | (have H2_ := (Option.bind_some _ _).symm.trans H; rw [hy317]; with_reducible exact H2_) | (have H2_ := (Option.bind_some _ _).symm.trans H; with_reducible exact H2_) | with_reducible exact H | (rw [hy317]; exact H) | exact H
     have Ny317 := Aside0.mk hy317
     clear hy317
     replace H := Option.bind_eq_some_iff.mp H
     obtain ⟨t321, A240, H⟩ := H
     replace H : (if t321 = true then (some false) else (if 0 ≤ ((rd_T56 l0_2 x30_2).f0) then (if ((rd_T56 l0_2 x30_2).f0) < (l0_1.length : Int) then ((impl_goesTo.f ((rd_T52 l0_1 ((rd_T56 l0_2 x30_2).f0)).f0) ((rd_T52 l0_1 ((rd_T56 l0_2 x30_2).f0)).f1) ((rd_T52 l0_1 ((rd_T56 l0_2 x30_2).f0)).f2) ((rd_T52 l0_1 ((rd_T56 l0_2 x30_2).f0)).f3) ((rd_T52 l0_1 ((rd_T56 l0_2 x30_2).f0)).f4)).bind fun t323 => (if t323 = true then ((impl_nameOk.f k2 ((rd_T56 l0_2 x30_2).f1)).bind fun t324 => (if t324 = true then (impl_PartOk.l0 k2 l0_2 (l0_2.length : Int) (wrap64 (x30_2 + 1)) a0_0 l0_1 l0_2) else (some false))) else (some false))) else (none)) else (none))) = some r := H
     have A24 := Aside0.mk A240
     clear A240
     by_cases c25 : t321 = true
     ·subst c25
      have H1 : (some false) = some r := by rw [if_pos rfl] at H; exact H
      clear H
      have H := H1
      clear H1
      obtain rfl := Option.some.inj H
      have p314 : 0 ≤ (x30_2 : Int) := zA7
      have q314 : x30_2 < (l0_2.length : Int) := zA7
      obtain ⟨ad314, e314, hx314_0, hx314_1⟩ := at_T56 HR0_2.out x30_2 p314 q314
      cases e314
      replace hx314_0 := (HB.out.cell (World.block_lt_of_cell? w _ hx314_0)).trans hx314_0
      replace hx314_1 := (HB.out.cell (World.block_lt_of_cell? w _ hx314_1)).trans hx314_1
      replace p314 := eq_true p314
      replace q314 := eq_true q314
      try go_wp2_with (first | ((with_reducible refine gate_dst (N := 4) rfl ?_); (try (refine gate_guard (by rfl) ?_; dsimp only)); refine box_event ?hg (N := 4) ?hd (cs := #[.int .i64 0, .string (⟨#[]⟩ : ByteArray)]) (t := 56) ?hr ?_; (case hd => rfl); (case hg => rfl); (case hr => first | (go_simp; done) | (go_simp; rfl)); intro gb315 hg w26 hbox hb; have n0_ := Aside0.mk (zb7 BK310.out hb); have n1_ := Aside0.mk (below_step (zB7_1) hb); have n2_ := Aside0.mk (hbox); have n3_ := Aside0.mk ((by rw [hg]; exact (below_size (zB7_1)) : w.heap.size ≤ gb315)); have n4_ := Aside0.mk ((by rw [hg]; exact (below_size (zB7_1)) : w.heap.size ≤ gb315)); have n5_ := Aside0.mk ((zn7 BK310.out hg : gb310 ≠ gb315)); have n6_ := Aside0.mk ((zm7 BK310.out hg : gb315 ≠ gb310)); clear BK310; clear HB; have BK310 := n0_; have HB := n1_; have BK315 := n2_; have GW315 := n3_; have GE315 := n4_; have NB310_315 := n5_; have NB315_310 := n6_; clear n0_ n1_ n2_ n3_ n4_ n5_ n6_; clear hb hbox hg; have hnb27 := NB315_310.out; have hnc27 := NB310_315.out; obtain ⟨hcz28_0, hcz28_1, hfz28_0, hfz28_1⟩ := zc7_2 (w := w26) BK315.out))
      have n0_ : Aside0 (((w26.setCell ⟨gb315, 0, none⟩ (.int .i64 ((rd_T56 l0_2 x30_2).f0))).setCell ⟨gb315, 1, none⟩ (.string ((rd_T56 l0_2 x30_2).f1))).heap[gb310]? = some (.cells #[.string a0_0, .slice A0_1 l0_1.length c0_1, .slice (some ad314) l0_2.length c0_2] 45 (0, 0))) := ⟨by refine zP7 ?_; refine blk_far ?_ NB310_315.out _; refine zP7 ?_; refine blk_far ?_ NB310_315.out _; refine zP7 ?_; exact BK310.out⟩
      have n1_ : Aside0 (((w26.setCell ⟨gb315, 0, none⟩ (.int .i64 ((rd_T56 l0_2 x30_2).f0))).setCell ⟨gb315, 1, none⟩ (.string ((rd_T56 l0_2 x30_2).f1))).heap[gb315]? = some (.cells #[.int .i64 ((rd_T56 l0_2 x30_2).f0), .string ((rd_T56 l0_2 x30_2).f1)] 56 (0, 0))) := ⟨by refine zP7 ?_; refine blk_put (cs := #[.int .i64 ((rd_T56 l0_2 x30_2).f0), .string (⟨#[]⟩ : ByteArray)]) ?_ 1 _ rfl; refine zP7 ?_; refine blk_put (cs := #[.int .i64 0, .string (⟨#[]⟩ : ByteArray)]) ?_ 0 _ rfl; refine zP7 ?_; exact BK315.out⟩
      have n2_ : Aside0 (Below w.heap.size w ((w26.setCell ⟨gb315, 0, none⟩ (.int .i64 ((rd_T56 l0_2 x30_2).f0))).setCell ⟨gb315, 1, none⟩ (.string ((rd_T56 l0_2 x30_2).f1)))) := ⟨zB7_2⟩
      (try clear BK310)
      (try clear BK315)
      (try clear HB)
      generalize ((w26.setCell ⟨gb315, 0, none⟩ (.int .i64 ((rd_T56 l0_2 x30_2).f0))).setCell ⟨gb315, 1, none⟩ (.string ((rd_T56 l0_2 x30_2).f1))) = w29 at n0_ n1_ n2_ ⊢
      have BK310 := n0_
      have BK315 := n1_
      have HB := n2_
      clear n0_ n1_ n2_
      have n0_ := Aside0.mk (blk_drew BK310.out)
      have n1_ := Aside0.mk (blk_drew BK315.out)
      have n2_ := Aside0.mk (below_drew1 HB.out)
      clear BK310 BK315 HB
      have BK310 := n0_
      have BK315 := n1_
      have HB := n2_
      clear n0_ n1_ n2_
      refine start_ (n := 33) (S := fun w' => w'.cell? ⟨gb315, 0, none⟩ = some (.int .i64 ((rd_T56 l0_2 x30_2).f0)) ∧ w'.cell? ⟨gb315, 1, none⟩ = some (.string ((rd_T56 l0_2 x30_2).f1)) ∧ w'.cell? ⟨gb310, 0, none⟩ = some (.string a0_0) ∧ w'.cell? ⟨gb310, 1, none⟩ = some (.slice A0_1 l0_1.length c0_1) ∧ w'.cell? ⟨gb310, 2, none⟩ = some (.slice (some ad314) l0_2.length c0_2)) (ds := []) zq7_0 (by kernel_rfl) rfl rfl ⟨(blk_cell BK315.out 0).trans rfl, (blk_cell BK315.out 1).trans rfl, (blk_cell BK310.out 0).trans rfl, (blk_cell BK310.out 1).trans rfl, (blk_cell BK310.out 2).trans rfl⟩ (fun hHeld => ?_); refine with_tabW impl_PartOk.tab6 impl_PartOk.bits6 (fun HT_ HW_ => ?_)
      generalize w29.drew = w30 at BK310 BK315 HB hHeld ⊢
      refine pure_ (i := 0) (N := some 35) (v := ?_) (a' := ?_) zq7_1 rfl rfl (any_of HT_.out (by kernel_rfl)) (fun _ _ _ h => h) (Or.inl ⟨by rfl, ?_⟩) ?_ ?_
      rotate_left
      ·intro w'
       go_simp
       with_reducible rfl
      rotate_left
      ·exact zV7
      refine pure_ (i := 2) (N := some 37) (v := ?_) (a' := ?_) zq7_2 rfl rfl (any_of HT_.out (by kernel_rfl)) (fun _ _ _ h => h) (Or.inl ⟨by rfl, ?_⟩) ?_ ?_
      rotate_left
      ·intro w'
       go_simp
       with_reducible rfl
      rotate_left
      ·exact zV7
      refine take_ (i := 1) (N := some 36) (v := ?_) (a' := ?_) zq7_3 rfl rfl (take_ofW HT_.out HW_.out (by kernel_rfl)) (fun _ _ _ h => h) (Or.inl ⟨by rfl, ?_⟩) hHeld ?_ ?_
      rotate_left
      ·rintro w' ⟨s0, s1, s2, s3, s4⟩
       go_simp
       with_reducible rfl
      rotate_left
      ·exact zV7
      refine take_ (i := 3) (N := some 38) (v := ?_) (a' := ?_) zq7_4 rfl rfl (take_ofW HT_.out HW_.out (by kernel_rfl)) (fun _ _ _ h => h) (Or.inl ⟨by rfl, ?_⟩) hHeld ?_ ?_
      rotate_left
      ·rintro w' ⟨s0, s1, s2, s3, s4⟩
       go_simp
       with_reducible rfl
      rotate_left
      ·exact zV7
      refine pure_ (i := 4) (N := some 39) (v := ?_) (a' := ?_) zq7_5 rfl rfl (any_of HT_.out (by kernel_rfl)) (fun _ _ _ h => h) (Or.inl ⟨by rfl, ?_⟩) ?_ ?_
      rotate_left
      ·intro w'
       go_simp
       with_reducible rfl
      rotate_left
      ·exact zV7
      refine pure_ (i := 5) (N := some 40) (v := ?_) (a' := ?_) zq7_6 rfl rfl (any_of HT_.out (by kernel_rfl)) (fun _ _ _ h => h) (Or.inl ⟨by rfl, ?_⟩) ?_ ?_
      rotate_left
      ·intro w'
       go_simp
       with_reducible rfl
      rotate_left
      ·exact zV7
      refine one_ (i := 6) (N := some 41) zq7_7 rfl rfl (one_of HT_.out (by kernel_rfl)) (by decide) (fun K hK => ?_)
      refine goes_ Try.func107 (by kernel_rfl) rfl #[.int .i64 ((rd_T56 l0_2 x30_2).f0), .int .i64 0, .int .i64 (wrap64 ((l0_1.length : Int) - 1))] (by rfl) rfl rfl zT7 ?_
      with_reducible refine (impl_from.calls ((rd_T56 l0_2 x30_2).f0) 0 (wrap64 ((l0_1.length : Int) - 1)) true _ A20.out).mono ?_
      rintro e w' ⟨rfl, ⟨nd, rfl⟩⟩
      refine ⟨_, rfl, ?_⟩
      have q31 : (x30_2 : Int) ≤ ((l0_2.length : Int) : Int) := zA7
      obtain ⟨i031, hi031, _, hsz31, _⟩ := info_parts info56
      have hroom31 : l0_2.length ≤ c0_2 := HC0_2.out
      have hC31 : Kd.C k56 _ (some ad314) l0_2.length l0_2 := HR0_2.out
      have hcut31 := cut_to (P := Try.prog) 43 56 .i64 Try.underlying43 hi031 (some ad314) l0_2.length c0_2 x30_2 (zA7) q31 hroom31
      have hr31 := Kd.C_take (m := (x30_2 : Int).toNat) hC31 (by omega)
      have hy31 : y317.length = (x30_2 : Int).toNat := (by rw [Ny317.out, List.length_take]; omega)
      rw [← Ny317.out] at hr31
      rw [← hy31] at hcut31
      have HR320 := Aside0.mk hr31
      have HC320 := Aside0.mk (show y317.length ≤ c0_2 from by omega)
      clear hr31 hC31 hroom31 hi031 hsz31
      have KY31 := Aside0.mk hy31
      clear hy31
      replace q31 := eq_true q31
      refine hK.out _ _ ⟨(blk_cell BK315.out 0).trans rfl, (blk_cell BK315.out 1).trans rfl, (blk_cell BK310.out 0).trans rfl, (blk_cell BK310.out 1).trans rfl, (blk_cell BK310.out 2).trans rfl⟩ (fun hHeld => ?_)
      clear hK K
      refine norm_ (a' := ?_) ?_ ?_
      rotate_left
      ·show Act.put _ (some 41) _ = _
       simp only [Act.put, List.setIfInBounds_toArray, List.set_cons_zero, List.set_cons_succ, i64_w, i32_w]
       rfl
      refine pure_ (i := 7) (N := some 42) (v := ?_) (a' := ?_) zq7_8 rfl rfl (any_of HT_.out (by kernel_rfl)) (fun _ _ _ h => h) (Or.inl ⟨by rfl, ?_⟩) ?_ ?_
      rotate_left
      ·intro w'
       go_simp
       with_reducible rfl
      rotate_left
      ·exact zV7
      refine pure_ (i := 8) (N := some 43) (v := ?_) (a' := ?_) zq7_9 rfl rfl (any_of HT_.out (by kernel_rfl)) (fun _ _ _ h => h) (Or.inl ⟨by rfl, ?_⟩) ?_ ?_
      rotate_left
      ·intro w'
       go_simp
       with_reducible rfl
      rotate_left
      ·exact zV7
      refine pure_ (i := 9) (N := some 44) (v := ?_) (a' := ?_) zq7_10 rfl rfl (any_of HT_.out (by kernel_rfl)) (fun _ _ _ h => h) (Or.inl ⟨by rfl, ?_⟩) ?_ ?_
      rotate_left
      ·intro w'
       go_simp
       with_reducible rfl
      rotate_left
      ·exact zV7
      refine pure_ (i := 11) (N := some 46) (v := ?_) (a' := ?_) zq7_11 rfl rfl (any_of HT_.out (by kernel_rfl)) (fun _ _ _ h => h) (Or.inl ⟨by rfl, ?_⟩) ?_ ?_
      rotate_left
      ·intro w'
       go_simp
       with_reducible rfl
      rotate_left
      ·exact zV7
      refine pure_ (i := 13) (N := some 48) (v := ?_) (a' := ?_) zq7_12 rfl rfl (any_of HT_.out (by kernel_rfl)) (fun _ _ _ h => h) (Or.inl ⟨by rfl, ?_⟩) ?_ ?_
      rotate_left
      ·intro w'
       go_simp
       with_reducible rfl
      rotate_left
      ·exact zV7
      refine take_ (i := 10) (N := some 45) (v := ?_) (a' := ?_) zq7_13 rfl rfl (take_ofW HT_.out HW_.out (by kernel_rfl)) (fun _ _ _ h => h) (Or.inl ⟨by rfl, ?_⟩) hHeld ?_ ?_
      rotate_left
      ·rintro w' ⟨s0, s1, s2, s3, s4⟩
       go_simp
       with_reducible rfl
      rotate_left
      ·exact zV7
      refine pure_ (i := 12) (N := some 47) (v := ?_) (a' := ?_) zq7_14 rfl rfl (any_of HT_.out (by kernel_rfl)) (fun _ _ _ h => h) (Or.inl ⟨by rfl, ?_⟩) ?_ ?_
      rotate_left
      ·intro w'
       go_simp
       with_reducible rfl
      rotate_left
      ·exact zV7
      refine take_ (i := 14) (N := some 49) (v := ?_) (a' := ?_) zq7_15 rfl rfl (take_ofW HT_.out HW_.out (by kernel_rfl)) (fun _ _ _ h => h) (Or.inl ⟨by rfl, ?_⟩) hHeld ?_ ?_
      rotate_left
      ·rintro w' ⟨s0, s1, s2, s3, s4⟩
       go_simp
       with_reducible rfl
      rotate_left
      ·exact zV7
      refine one_ (i := 15) (N := some 50) zq7_16 rfl rfl (one_of HT_.out (by kernel_rfl)) (by decide) (fun K hK => ?_)
      refine goes_ Try.func111 (by kernel_rfl) rfl #[.slice (some ad314) y317.length c0_2, .int .i64 ((rd_T56 l0_2 x30_2).f0)] (by rfl) rfl rfl zT7 ?_
      with_reducible refine (impl_isRef.calls _ _ y317 ((rd_T56 l0_2 x30_2).f0) true _ ?side1 ?side2 A24.out).mono ?_
      (case side1 => repeat (first | exact (Kd.C_below HR320.out (zB7_2)) | (with_reducible refine Kd.C_alloc ?_ _) | (with_reducible refine Kd.C_drewN ?_ _) | (with_reducible refine Kd.C_drew ?_)))
      (case side2 => exact HC320.out)
      rintro e w32 ⟨rfl, hb⟩
      refine ⟨_, rfl, ?_⟩
      have n0_ := Aside0.mk (zb7 BK310.out hb)
      have n1_ := Aside0.mk (zb7 BK315.out hb)
      have n2_ := Aside0.mk (below_step (zB7_2) hb)
      clear BK310 BK315 HB
      have BK310 := n0_
      have BK315 := n1_
      have HB := n2_
      clear n0_ n1_ n2_
      (try clear hb)
      (try clear hb2)
      (try clear hk)
      (try clear hi)
      refine hK.out _ _ ⟨(blk_cell BK315.out 0).trans rfl, (blk_cell BK315.out 1).trans rfl, (blk_cell BK310.out 0).trans rfl, (blk_cell BK310.out 1).trans rfl, (blk_cell BK310.out 2).trans rfl⟩ (fun hHeld => ?_)
      clear hK K
      refine norm_ (a' := ?_) ?_ ?_
      rotate_left
      ·show Act.put _ (some 50) _ = _
       simp only [Act.put, List.setIfInBounds_toArray, List.set_cons_zero, List.set_cons_succ, i64_w, i32_w]
       rfl
      refine pure_ (i := 16) (N := some 51) (v := ?_) (a' := ?_) zq7_17 rfl rfl (any_of HT_.out (by kernel_rfl)) (fun _ _ _ h => h) (Or.inl ⟨by rfl, ?_⟩) ?_ ?_
      rotate_left
      ·intro w'
       go_simp
       with_reducible rfl
      rotate_left
      ·exact zV7
      refine pure_ (i := 17) (N := some 52) (v := ?_) (a' := ?_) zq7_18 rfl rfl (any_of HT_.out (by kernel_rfl)) (fun _ _ _ h => h) (Or.inl ⟨by rfl, ?_⟩) ?_ ?_
      rotate_left
      ·intro w'
       go_simp
       with_reducible rfl
      rotate_left
      ·exact zV7
      refine pure_ (i := 18) (N := some 53) (v := undef) (a' := ?_) zq7_19 rfl rfl (any_of HT_.out (by kernel_rfl)) (fun _ _ _ h => h) (Or.inr ⟨by rfl, rfl⟩) ?_ ?_
      rotate_left
      ·exact zV7
      refine pure_ (i := 19) (N := some 54) (v := undef) (a' := ?_) zq7_20 rfl rfl (any_of HT_.out (by kernel_rfl)) (fun _ _ _ h => h) (Or.inr ⟨by rfl, rfl⟩) ?_ ?_
      rotate_left
      ·exact zV7
      refine pure_ (i := 20) (N := some 55) (v := undef) (a' := ?_) zq7_21 rfl rfl (any_of HT_.out (by kernel_rfl)) (fun _ _ _ h => h) (Or.inr ⟨by rfl, rfl⟩) ?_ ?_
      rotate_left
      ·exact zV7
      refine pure_ (i := 21) (N := some 56) (v := undef) (a' := ?_) zq7_22 rfl rfl (any_of HT_.out (by kernel_rfl)) (fun _ _ _ h => h) (Or.inr ⟨by rfl, rfl⟩) ?_ ?_
      rotate_left
      ·exact zV7
      refine pure_ (i := 22) (N := some 57) (v := undef) (a' := ?_) zq7_23 rfl rfl (any_of HT_.out (by kernel_rfl)) (fun _ _ _ h => h) (Or.inr ⟨by rfl, rfl⟩) ?_ ?_
      rotate_left
      ·exact zV7
      refine pure_ (i := 23) (N := some 58) (v := undef) (a' := ?_) zq7_24 rfl rfl (any_of HT_.out (by kernel_rfl)) (fun _ _ _ h => h) (Or.inr ⟨by rfl, rfl⟩) ?_ ?_
      rotate_left
      ·exact zV7
      refine pure_ (i := 24) (N := some 59) (v := undef) (a' := ?_) zq7_25 rfl rfl (any_of HT_.out (by kernel_rfl)) (fun _ _ _ h => h) (Or.inr ⟨by rfl, rfl⟩) ?_ ?_
      rotate_left
      ·exact zV7
      refine pure_ (i := 25) (N := some 60) (v := undef) (a' := ?_) zq7_26 rfl rfl (any_of HT_.out (by kernel_rfl)) (fun _ _ _ h => h) (Or.inr ⟨by rfl, rfl⟩) ?_ ?_
      rotate_left
      ·exact zV7
      refine pure_ (i := 26) (N := some 61) (v := ?_) (a' := ?_) zq7_27 rfl rfl (any_of HT_.out (by kernel_rfl)) (fun _ _ _ h => h) (Or.inl ⟨by rfl, ?_⟩) ?_ ?_
      rotate_left
      ·intro w'
       go_simp
       with_reducible rfl
      rotate_left
      ·exact zV7
      refine pure_ (i := 27) (N := some 62) (v := ?_) (a' := ?_) zq7_28 rfl rfl (any_of HT_.out (by kernel_rfl)) (fun _ _ _ h => h) (Or.inl ⟨by rfl, ?_⟩) ?_ ?_
      rotate_left
      ·intro w'
       go_simp
       with_reducible rfl
      rotate_left
      ·exact zV7
      refine pure_ (i := 28) (N := some 63) (v := undef) (a' := ?_) zq7_29 rfl rfl (any_of HT_.out (by kernel_rfl)) (fun _ _ _ h => h) (Or.inr ⟨by rfl, rfl⟩) ?_ ?_
      rotate_left
      ·exact zV7
      refine pure_ (i := 29) (N := some 64) (v := undef) (a' := ?_) zq7_30 rfl rfl (any_of HT_.out (by kernel_rfl)) (fun _ _ _ h => h) (Or.inr ⟨by rfl, rfl⟩) ?_ ?_
      rotate_left
      ·exact zV7
      refine pure_ (i := 30) (N := some 65) (v := undef) (a' := ?_) zq7_31 rfl rfl (any_of HT_.out (by kernel_rfl)) (fun _ _ _ h => h) (Or.inr ⟨by rfl, rfl⟩) ?_ ?_
      rotate_left
      ·exact zV7
      refine pure_ (i := 31) (N := some 66) (v := undef) (a' := ?_) zq7_32 rfl rfl (any_of HT_.out (by kernel_rfl)) (fun _ _ _ h => h) (Or.inr ⟨by rfl, rfl⟩) ?_ ?_
      rotate_left
      ·exact zV7
      refine pure_ (i := 32) (N := some 67) (v := ?_) (a' := ?_) zq7_33 rfl rfl (any_of HT_.out (by kernel_rfl)) (fun _ _ _ h => h) (Or.inl ⟨by rfl, ?_⟩) ?_ ?_
      rotate_left
      ·intro w'
       go_simp
       with_reducible rfl
      rotate_left
      ·exact zV7
      refine done_ (done_of HT_.out (by kernel_rfl)) ?_
      try go_wp2
      go_ret
      exact ⟨zE7, zB7_2⟩
     replace c25 := Bool.eq_false_iff.mpr c25
     subst c25
     have H1 : (if 0 ≤ ((rd_T56 l0_2 x30_2).f0) then (if ((rd_T56 l0_2 x30_2).f0) < (l0_1.length : Int) then ((impl_goesTo.f ((rd_T52 l0_1 ((rd_T56 l0_2 x30_2).f0)).f0) ((rd_T52 l0_1 ((rd_T56 l0_2 x30_2).f0)).f1) ((rd_T52 l0_1 ((rd_T56 l0_2 x30_2).f0)).f2) ((rd_T52 l0_1 ((rd_T56 l0_2 x30_2).f0)).f3) ((rd_T52 l0_1 ((rd_T56 l0_2 x30_2).f0)).f4)).bind fun t323 => (if t323 = true then ((impl_nameOk.f k2 ((rd_T56 l0_2 x30_2).f1)).bind fun t324 => (if t324 = true then (impl_PartOk.l0 k2 l0_2 (l0_2.length : Int) (wrap64 (x30_2 + 1)) a0_0 l0_1 l0_2) else (some false))) else (some false))) else (none)) else (none)) = some r := by rw [if_neg (show ¬ (false = true) by decide)] at H; exact H
     clear H
     have H := H1
     clear H1
     by_cases c33 : 0 ≤ ((rd_T56 l0_2 x30_2).f0)
     rotate_left
     ·rw [if_neg c33] at H
      exact absurd H (by simp)
     rw [if_pos c33] at H
     have c33b0 : decide (0 ≤ ((rd_T56 l0_2 x30_2).f0)) = true := decide_eq_true c33
     clear c33
     by_cases c34 : ((rd_T56 l0_2 x30_2).f0) < (l0_1.length : Int)
     rotate_left
     ·rw [if_neg c34] at H
      exact absurd H (by simp)
     rw [if_pos c34] at H
     have c34b0 : decide (((rd_T56 l0_2 x30_2).f0) < (l0_1.length : Int)) = true := decide_eq_true c34
     clear c34
     replace H := Option.bind_eq_some_iff.mp H
     obtain ⟨t323, A350, H⟩ := H
     replace H : (if t323 = true then ((impl_nameOk.f k2 ((rd_T56 l0_2 x30_2).f1)).bind fun t324 => (if t324 = true then (impl_PartOk.l0 k2 l0_2 (l0_2.length : Int) (wrap64 (x30_2 + 1)) a0_0 l0_1 l0_2) else (some false))) else (some false)) = some r := H
     have A35 := Aside0.mk A350
     clear A350
     by_cases c36 : t323 = true
     rotate_left
     ·replace c36 := Bool.eq_false_iff.mpr c36
      subst c36
      have H1 : (some false) = some r := by rw [if_neg (show ¬ (false = true) by decide)] at H; exact H
      clear H
      have H := H1
      clear H1
      obtain rfl := Option.some.inj H
      have p314 : 0 ≤ (x30_2 : Int) := zA7
      have q314 : x30_2 < (l0_2.length : Int) := zA7
      obtain ⟨ad314, e314, hx314_0, hx314_1⟩ := at_T56 HR0_2.out x30_2 p314 q314
      cases e314
      replace hx314_0 := (HB.out.cell (World.block_lt_of_cell? w _ hx314_0)).trans hx314_0
      replace hx314_1 := (HB.out.cell (World.block_lt_of_cell? w _ hx314_1)).trans hx314_1
      replace p314 := eq_true p314
      replace q314 := eq_true q314
      try go_wp2_with (first | ((with_reducible refine gate_dst (N := 4) rfl ?_); (try (refine gate_guard (by rfl) ?_; dsimp only)); refine box_event ?hg (N := 4) ?hd (cs := #[.int .i64 0, .string (⟨#[]⟩ : ByteArray)]) (t := 56) ?hr ?_; (case hd => rfl); (case hg => rfl); (case hr => first | (go_simp; done) | (go_simp; rfl)); intro gb315 hg w55 hbox hb; have n0_ := Aside0.mk (zb7 BK310.out hb); have n1_ := Aside0.mk (below_step (zB7_1) hb); have n2_ := Aside0.mk (hbox); have n3_ := Aside0.mk ((by rw [hg]; exact (below_size (zB7_1)) : w.heap.size ≤ gb315)); have n4_ := Aside0.mk ((by rw [hg]; exact (below_size (zB7_1)) : w.heap.size ≤ gb315)); have n5_ := Aside0.mk ((zn7 BK310.out hg : gb310 ≠ gb315)); have n6_ := Aside0.mk ((zm7 BK310.out hg : gb315 ≠ gb310)); clear BK310; clear HB; have BK310 := n0_; have HB := n1_; have BK315 := n2_; have GW315 := n3_; have GE315 := n4_; have NB310_315 := n5_; have NB315_310 := n6_; clear n0_ n1_ n2_ n3_ n4_ n5_ n6_; clear hb hbox hg; have hnb56 := NB315_310.out; have hnc56 := NB310_315.out; obtain ⟨hcz57_0, hcz57_1, hfz57_0, hfz57_1⟩ := zc7_2 (w := w55) BK315.out))
      have n0_ : Aside0 (((w55.setCell ⟨gb315, 0, none⟩ (.int .i64 ((rd_T56 l0_2 x30_2).f0))).setCell ⟨gb315, 1, none⟩ (.string ((rd_T56 l0_2 x30_2).f1))).heap[gb310]? = some (.cells #[.string a0_0, .slice A0_1 l0_1.length c0_1, .slice (some ad314) l0_2.length c0_2] 45 (0, 0))) := ⟨by refine zP7 ?_; refine blk_far ?_ NB310_315.out _; refine zP7 ?_; refine blk_far ?_ NB310_315.out _; refine zP7 ?_; exact BK310.out⟩
      have n1_ : Aside0 (((w55.setCell ⟨gb315, 0, none⟩ (.int .i64 ((rd_T56 l0_2 x30_2).f0))).setCell ⟨gb315, 1, none⟩ (.string ((rd_T56 l0_2 x30_2).f1))).heap[gb315]? = some (.cells #[.int .i64 ((rd_T56 l0_2 x30_2).f0), .string ((rd_T56 l0_2 x30_2).f1)] 56 (0, 0))) := ⟨by refine zP7 ?_; refine blk_put (cs := #[.int .i64 ((rd_T56 l0_2 x30_2).f0), .string (⟨#[]⟩ : ByteArray)]) ?_ 1 _ rfl; refine zP7 ?_; refine blk_put (cs := #[.int .i64 0, .string (⟨#[]⟩ : ByteArray)]) ?_ 0 _ rfl; refine zP7 ?_; exact BK315.out⟩
      have n2_ : Aside0 (Below w.heap.size w ((w55.setCell ⟨gb315, 0, none⟩ (.int .i64 ((rd_T56 l0_2 x30_2).f0))).setCell ⟨gb315, 1, none⟩ (.string ((rd_T56 l0_2 x30_2).f1)))) := ⟨zB7_2⟩
      (try clear BK310)
      (try clear BK315)
      (try clear HB)
      generalize ((w55.setCell ⟨gb315, 0, none⟩ (.int .i64 ((rd_T56 l0_2 x30_2).f0))).setCell ⟨gb315, 1, none⟩ (.string ((rd_T56 l0_2 x30_2).f1))) = w58 at n0_ n1_ n2_ ⊢
      have BK310 := n0_
      have BK315 := n1_
      have HB := n2_
      clear n0_ n1_ n2_
      have n0_ := Aside0.mk (blk_drew BK310.out)
      have n1_ := Aside0.mk (blk_drew BK315.out)
      have n2_ := Aside0.mk (below_drew1 HB.out)
      clear BK310 BK315 HB
      have BK310 := n0_
      have BK315 := n1_
      have HB := n2_
      clear n0_ n1_ n2_
      have p322 : 0 ≤ (((rd_T56 l0_2 x30_2).f0) : Int) := zA7
      have q322 : ((rd_T56 l0_2 x30_2).f0) < (l0_1.length : Int) := zA7
      obtain ⟨ad322, e322, hx322_0, hx322_1, hx322_2, hx322_3, hx322_4⟩ := at_T52 HR0_1.out ((rd_T56 l0_2 x30_2).f0) p322 q322
      have hw322_4 := hx322_4
      have hw322_3 := hx322_3
      have hw322_2 := hx322_2
      have hw322_1 := hx322_1
      have hw322_0 := hx322_0
      cases e322
      replace hx322_0 := (HB.out.cell (World.block_lt_of_cell? w _ hx322_0)).trans hx322_0
      replace hx322_1 := (HB.out.cell (World.block_lt_of_cell? w _ hx322_1)).trans hx322_1
      replace hx322_2 := (HB.out.cell (World.block_lt_of_cell? w _ hx322_2)).trans hx322_2
      replace hx322_3 := (HB.out.cell (World.block_lt_of_cell? w _ hx322_3)).trans hx322_3
      replace hx322_4 := (HB.out.cell (World.block_lt_of_cell? w _ hx322_4)).trans hx322_4
      replace p322 := eq_true p322
      replace q322 := eq_true q322
      refine start_ (n := 33) (S := fun w' => w'.cell? ⟨gb315, 0, none⟩ = some (.int .i64 ((rd_T56 l0_2 x30_2).f0)) ∧ w'.cell? ⟨gb315, 1, none⟩ = some (.string ((rd_T56 l0_2 x30_2).f1)) ∧ w'.cell? ⟨gb310, 0, none⟩ = some (.string a0_0) ∧ w'.cell? ⟨gb310, 1, none⟩ = some (.slice (some ad322) l0_1.length c0_1) ∧ w'.cell? ⟨gb310, 2, none⟩ = some (.slice (some ad314) l0_2.length c0_2) ∧ w'.cell? (ad322.add ((((rd_T56 l0_2 x30_2).f0)).toNat * 5)) = some (.int .i64 ((rd_T52 l0_1 ((rd_T56 l0_2 x30_2).f0)).f0)) ∧ w'.cell? ⟨(ad322.add ((((rd_T56 l0_2 x30_2).f0)).toNat * 5)).block, (ad322.add ((((rd_T56 l0_2 x30_2).f0)).toNat * 5)).off + 1, none⟩ = some (.int .i64 ((rd_T52 l0_1 ((rd_T56 l0_2 x30_2).f0)).f1)) ∧ w'.cell? ⟨(ad322.add ((((rd_T56 l0_2 x30_2).f0)).toNat * 5)).block, (ad322.add ((((rd_T56 l0_2 x30_2).f0)).toNat * 5)).off + 2, none⟩ = some (.int .i64 ((rd_T52 l0_1 ((rd_T56 l0_2 x30_2).f0)).f2)) ∧ w'.cell? ⟨(ad322.add ((((rd_T56 l0_2 x30_2).f0)).toNat * 5)).block, (ad322.add ((((rd_T56 l0_2 x30_2).f0)).toNat * 5)).off + 3, none⟩ = some (.int .i64 ((rd_T52 l0_1 ((rd_T56 l0_2 x30_2).f0)).f3)) ∧ w'.cell? ⟨(ad322.add ((((rd_T56 l0_2 x30_2).f0)).toNat * 5)).block, (ad322.add ((((rd_T56 l0_2 x30_2).f0)).toNat * 5)).off + 4, none⟩ = some (.int .i64 ((rd_T52 l0_1 ((rd_T56 l0_2 x30_2).f0)).f4))) (ds := []) zq7_0 (by kernel_rfl) rfl rfl ⟨(blk_cell BK315.out 0).trans rfl, (blk_cell BK315.out 1).trans rfl, (blk_cell BK310.out 0).trans rfl, (blk_cell BK310.out 1).trans rfl, (blk_cell BK310.out 2).trans rfl, ((HB.out.cell (World.block_lt_of_cell? w _ hw322_0)).trans hw322_0), ((HB.out.cell (World.block_lt_of_cell? w _ hw322_1)).trans hw322_1), ((HB.out.cell (World.block_lt_of_cell? w _ hw322_2)).trans hw322_2), ((HB.out.cell (World.block_lt_of_cell? w _ hw322_3)).trans hw322_3), ((HB.out.cell (World.block_lt_of_cell? w _ hw322_4)).trans hw322_4)⟩ (fun hHeld => ?_); refine with_tabW impl_PartOk.tab6 impl_PartOk.bits6 (fun HT_ HW_ => ?_)
      generalize w58.drew = w59 at BK310 BK315 HB hx322_0 hx322_1 hx322_2 hx322_3 hx322_4 hHeld ⊢
      refine pure_ (i := 0) (N := some 35) (v := ?_) (a' := ?_) zq7_1 rfl rfl (any_of HT_.out (by kernel_rfl)) (fun _ _ _ h => h) (Or.inl ⟨by rfl, ?_⟩) ?_ ?_
      rotate_left
      ·intro w'
       go_simp
       with_reducible rfl
      rotate_left
      ·exact zV7
      refine pure_ (i := 2) (N := some 37) (v := ?_) (a' := ?_) zq7_2 rfl rfl (any_of HT_.out (by kernel_rfl)) (fun _ _ _ h => h) (Or.inl ⟨by rfl, ?_⟩) ?_ ?_
      rotate_left
      ·intro w'
       go_simp
       with_reducible rfl
      rotate_left
      ·exact zV7
      refine take_ (i := 1) (N := some 36) (v := ?_) (a' := ?_) zq7_3 rfl rfl (take_ofW HT_.out HW_.out (by kernel_rfl)) (fun _ _ _ h => h) (Or.inl ⟨by rfl, ?_⟩) hHeld ?_ ?_
      rotate_left
      ·rintro w' ⟨s0, s1, s2, s3, s4, s5, s6, s7, s8, s9⟩
       go_simp
       with_reducible rfl
      rotate_left
      ·exact zV7
      refine take_ (i := 3) (N := some 38) (v := ?_) (a' := ?_) zq7_4 rfl rfl (take_ofW HT_.out HW_.out (by kernel_rfl)) (fun _ _ _ h => h) (Or.inl ⟨by rfl, ?_⟩) hHeld ?_ ?_
      rotate_left
      ·rintro w' ⟨s0, s1, s2, s3, s4, s5, s6, s7, s8, s9⟩
       go_simp
       with_reducible rfl
      rotate_left
      ·exact zV7
      refine pure_ (i := 4) (N := some 39) (v := ?_) (a' := ?_) zq7_5 rfl rfl (any_of HT_.out (by kernel_rfl)) (fun _ _ _ h => h) (Or.inl ⟨by rfl, ?_⟩) ?_ ?_
      rotate_left
      ·intro w'
       go_simp
       with_reducible rfl
      rotate_left
      ·exact zV7
      refine pure_ (i := 5) (N := some 40) (v := ?_) (a' := ?_) zq7_6 rfl rfl (any_of HT_.out (by kernel_rfl)) (fun _ _ _ h => h) (Or.inl ⟨by rfl, ?_⟩) ?_ ?_
      rotate_left
      ·intro w'
       go_simp
       with_reducible rfl
      rotate_left
      ·exact zV7
      refine one_ (i := 6) (N := some 41) zq7_7 rfl rfl (one_of HT_.out (by kernel_rfl)) (by decide) (fun K hK => ?_)
      refine goes_ Try.func107 (by kernel_rfl) rfl #[.int .i64 ((rd_T56 l0_2 x30_2).f0), .int .i64 0, .int .i64 (wrap64 ((l0_1.length : Int) - 1))] (by rfl) rfl rfl zT7 ?_
      with_reducible refine (impl_from.calls ((rd_T56 l0_2 x30_2).f0) 0 (wrap64 ((l0_1.length : Int) - 1)) true _ A20.out).mono ?_
      rintro e w' ⟨rfl, ⟨nd, rfl⟩⟩
      refine ⟨_, rfl, ?_⟩
      have q60 : (x30_2 : Int) ≤ ((l0_2.length : Int) : Int) := zA7
      obtain ⟨i060, hi060, _, hsz60, _⟩ := info_parts info56
      have hroom60 : l0_2.length ≤ c0_2 := HC0_2.out
      have hC60 : Kd.C k56 _ (some ad314) l0_2.length l0_2 := HR0_2.out
      have hcut60 := cut_to (P := Try.prog) 43 56 .i64 Try.underlying43 hi060 (some ad314) l0_2.length c0_2 x30_2 (zA7) q60 hroom60
      have hr60 := Kd.C_take (m := (x30_2 : Int).toNat) hC60 (by omega)
      have hy60 : y317.length = (x30_2 : Int).toNat := (by rw [Ny317.out, List.length_take]; omega)
      rw [← Ny317.out] at hr60
      rw [← hy60] at hcut60
      have HR320 := Aside0.mk hr60
      have HC320 := Aside0.mk (show y317.length ≤ c0_2 from by omega)
      clear hr60 hC60 hroom60 hi060 hsz60
      have KY60 := Aside0.mk hy60
      clear hy60
      replace q60 := eq_true q60
      refine hK.out _ _ ⟨(blk_cell BK315.out 0).trans rfl, (blk_cell BK315.out 1).trans rfl, (blk_cell BK310.out 0).trans rfl, (blk_cell BK310.out 1).trans rfl, (blk_cell BK310.out 2).trans rfl, ((HB.out.cell (World.block_lt_of_cell? w _ hw322_0)).trans hw322_0), ((HB.out.cell (World.block_lt_of_cell? w _ hw322_1)).trans hw322_1), ((HB.out.cell (World.block_lt_of_cell? w _ hw322_2)).trans hw322_2), ((HB.out.cell (World.block_lt_of_cell? w _ hw322_3)).trans hw322_3), ((HB.out.cell (World.block_lt_of_cell? w _ hw322_4)).trans hw322_4)⟩ (fun hHeld => ?_)
      clear hK K
      refine norm_ (a' := ?_) ?_ ?_
      rotate_left
      ·show Act.put _ (some 41) _ = _
       simp only [Act.put, List.setIfInBounds_toArray, List.set_cons_zero, List.set_cons_succ, i64_w, i32_w]
       rfl
      refine pure_ (i := 7) (N := some 42) (v := ?_) (a' := ?_) zq7_8 rfl rfl (any_of HT_.out (by kernel_rfl)) (fun _ _ _ h => h) (Or.inl ⟨by rfl, ?_⟩) ?_ ?_
      rotate_left
      ·intro w'
       go_simp
       with_reducible rfl
      rotate_left
      ·exact zV7
      refine pure_ (i := 8) (N := some 43) (v := ?_) (a' := ?_) zq7_9 rfl rfl (any_of HT_.out (by kernel_rfl)) (fun _ _ _ h => h) (Or.inl ⟨by rfl, ?_⟩) ?_ ?_
      rotate_left
      ·intro w'
       go_simp
       with_reducible rfl
      rotate_left
      ·exact zV7
      refine pure_ (i := 9) (N := some 44) (v := ?_) (a' := ?_) zq7_10 rfl rfl (any_of HT_.out (by kernel_rfl)) (fun _ _ _ h => h) (Or.inl ⟨by rfl, ?_⟩) ?_ ?_
      rotate_left
      ·intro w'
       go_simp
       with_reducible rfl
      rotate_left
      ·exact zV7
      refine pure_ (i := 11) (N := some 46) (v := ?_) (a' := ?_) zq7_11 rfl rfl (any_of HT_.out (by kernel_rfl)) (fun _ _ _ h => h) (Or.inl ⟨by rfl, ?_⟩) ?_ ?_
      rotate_left
      ·intro w'
       go_simp
       with_reducible rfl
      rotate_left
      ·exact zV7
      refine pure_ (i := 13) (N := some 48) (v := ?_) (a' := ?_) zq7_12 rfl rfl (any_of HT_.out (by kernel_rfl)) (fun _ _ _ h => h) (Or.inl ⟨by rfl, ?_⟩) ?_ ?_
      rotate_left
      ·intro w'
       go_simp
       with_reducible rfl
      rotate_left
      ·exact zV7
      refine take_ (i := 10) (N := some 45) (v := ?_) (a' := ?_) zq7_13 rfl rfl (take_ofW HT_.out HW_.out (by kernel_rfl)) (fun _ _ _ h => h) (Or.inl ⟨by rfl, ?_⟩) hHeld ?_ ?_
      rotate_left
      ·rintro w' ⟨s0, s1, s2, s3, s4, s5, s6, s7, s8, s9⟩
       go_simp
       with_reducible rfl
      rotate_left
      ·exact zV7
      refine pure_ (i := 12) (N := some 47) (v := ?_) (a' := ?_) zq7_14 rfl rfl (any_of HT_.out (by kernel_rfl)) (fun _ _ _ h => h) (Or.inl ⟨by rfl, ?_⟩) ?_ ?_
      rotate_left
      ·intro w'
       go_simp
       with_reducible rfl
      rotate_left
      ·exact zV7
      refine take_ (i := 14) (N := some 49) (v := ?_) (a' := ?_) zq7_15 rfl rfl (take_ofW HT_.out HW_.out (by kernel_rfl)) (fun _ _ _ h => h) (Or.inl ⟨by rfl, ?_⟩) hHeld ?_ ?_
      rotate_left
      ·rintro w' ⟨s0, s1, s2, s3, s4, s5, s6, s7, s8, s9⟩
       go_simp
       with_reducible rfl
      rotate_left
      ·exact zV7
      refine one_ (i := 15) (N := some 50) zq7_16 rfl rfl (one_of HT_.out (by kernel_rfl)) (by decide) (fun K hK => ?_)
      refine goes_ Try.func111 (by kernel_rfl) rfl #[.slice (some ad314) y317.length c0_2, .int .i64 ((rd_T56 l0_2 x30_2).f0)] (by rfl) rfl rfl zT7 ?_
      with_reducible refine (impl_isRef.calls _ _ y317 ((rd_T56 l0_2 x30_2).f0) false _ ?side1 ?side2 A24.out).mono ?_
      (case side1 => repeat (first | exact (Kd.C_below HR320.out (zB7_2)) | (with_reducible refine Kd.C_alloc ?_ _) | (with_reducible refine Kd.C_drewN ?_ _) | (with_reducible refine Kd.C_drew ?_)))
      (case side2 => exact HC320.out)
      rintro e w61 ⟨rfl, hb⟩
      refine ⟨_, rfl, ?_⟩
      have n0_ := Aside0.mk (zb7 BK310.out hb)
      have n1_ := Aside0.mk (zb7 BK315.out hb)
      have n2_ := Aside0.mk (below_step (zB7_2) hb)
      clear BK310 BK315 HB
      have BK310 := n0_
      have BK315 := n1_
      have HB := n2_
      clear n0_ n1_ n2_
      (try clear hb)
      (try clear hb2)
      (try clear hk)
      (try clear hi)
      refine hK.out _ _ ⟨(blk_cell BK315.out 0).trans rfl, (blk_cell BK315.out 1).trans rfl, (blk_cell BK310.out 0).trans rfl, (blk_cell BK310.out 1).trans rfl, (blk_cell BK310.out 2).trans rfl, ((HB.out.cell (World.block_lt_of_cell? w _ hw322_0)).trans hw322_0), ((HB.out.cell (World.block_lt_of_cell? w _ hw322_1)).trans hw322_1), ((HB.out.cell (World.block_lt_of_cell? w _ hw322_2)).trans hw322_2), ((HB.out.cell (World.block_lt_of_cell? w _ hw322_3)).trans hw322_3), ((HB.out.cell (World.block_lt_of_cell? w _ hw322_4)).trans hw322_4)⟩ (fun hHeld => ?_)
      clear hK K
      refine norm_ (a' := ?_) ?_ ?_
      rotate_left
      ·show Act.put _ (some 50) _ = _
       simp only [Act.put, List.setIfInBounds_toArray, List.set_cons_zero, List.set_cons_succ, i64_w, i32_w]
       rfl
      refine pure_ (i := 16) (N := some 51) (v := ?_) (a' := ?_) zq7_17 rfl rfl (any_of HT_.out (by kernel_rfl)) (fun _ _ _ h => h) (Or.inl ⟨by rfl, ?_⟩) ?_ ?_
      rotate_left
      ·intro w'
       go_simp
       with_reducible rfl
      rotate_left
      ·exact zV7
      refine pure_ (i := 17) (N := some 52) (v := ?_) (a' := ?_) zq7_18 rfl rfl (any_of HT_.out (by kernel_rfl)) (fun _ _ _ h => h) (Or.inl ⟨by rfl, ?_⟩) ?_ ?_
      rotate_left
      ·intro w'
       go_simp
       with_reducible rfl
      rotate_left
      ·exact zV7
      refine pure_ (i := 18) (N := some 53) (v := ?_) (a' := ?_) zq7_19 rfl rfl (any_of HT_.out (by kernel_rfl)) (fun _ _ _ h => h) (Or.inl ⟨by rfl, ?_⟩) ?_ ?_
      rotate_left
      ·intro w'
       go_simp
       with_reducible rfl
      rotate_left
      ·exact zV7
      refine pure_ (i := 20) (N := some 55) (v := ?_) (a' := ?_) zq7_34 rfl rfl (any_of HT_.out (by kernel_rfl)) (fun _ _ _ h => h) (Or.inl ⟨by rfl, ?_⟩) ?_ ?_
      rotate_left
      ·intro w'
       go_simp
       with_reducible rfl
      rotate_left
      ·exact zV7
      refine take_ (i := 19) (N := some 54) (v := ?_) (a' := ?_) zq7_21 rfl rfl (take_ofW HT_.out HW_.out (by kernel_rfl)) (fun _ _ _ h => h) (Or.inl ⟨by rfl, ?_⟩) hHeld ?_ ?_
      rotate_left
      ·rintro w' ⟨s0, s1, s2, s3, s4, s5, s6, s7, s8, s9⟩
       go_simp
       with_reducible rfl
      rotate_left
      ·exact zV7
      refine take_ (i := 21) (N := some 56) (v := ?_) (a' := ?_) zq7_22 rfl rfl (take_ofW HT_.out HW_.out (by kernel_rfl)) (fun _ _ _ h => h) (Or.inl ⟨by rfl, ?_⟩) hHeld ?_ ?_
      rotate_left
      ·rintro w' ⟨s0, s1, s2, s3, s4, s5, s6, s7, s8, s9⟩
       go_simp
       with_reducible rfl
      rotate_left
      ·exact zV7
      refine pure_ (i := 22) (N := some 57) (v := ?_) (a' := ?_) zq7_23 rfl rfl (any_of HT_.out (by kernel_rfl)) (fun _ _ _ h => h) (Or.inl ⟨by rfl, ?_⟩) ?_ ?_
      rotate_left
      ·intro w'
       go_simp
       with_reducible rfl
      rotate_left
      ·exact zV7
      refine take_ (i := 23) (N := some 58) (v := ?_) (a' := ?_) zq7_24 rfl rfl (take_ofW HT_.out HW_.out (by kernel_rfl)) (fun _ _ _ h => h) (Or.inl ⟨by rfl, ?_⟩) hHeld ?_ ?_
      rotate_left
      ·rintro w' ⟨s0, s1, s2, s3, s4, s5, s6, s7, s8, s9⟩
       go_simp
       with_reducible rfl
      rotate_left
      ·exact zV7
      refine one_ (i := 24) (N := some 59) zq7_25 rfl rfl (one_of HT_.out (by kernel_rfl)) (by decide) (fun K hK => ?_)
      refine goes_ Try.func112 (by kernel_rfl) rfl #[.agg #[.int .i64 ((rd_T52 l0_1 ((rd_T56 l0_2 x30_2).f0)).f0), .int .i64 ((rd_T52 l0_1 ((rd_T56 l0_2 x30_2).f0)).f1), .int .i64 ((rd_T52 l0_1 ((rd_T56 l0_2 x30_2).f0)).f2), .int .i64 ((rd_T52 l0_1 ((rd_T56 l0_2 x30_2).f0)).f3), .int .i64 ((rd_T52 l0_1 ((rd_T56 l0_2 x30_2).f0)).f4)]] (by rfl) rfl rfl zT7 ?_
      with_reducible refine (impl_goesTo.calls ((rd_T52 l0_1 ((rd_T56 l0_2 x30_2).f0)).f0) ((rd_T52 l0_1 ((rd_T56 l0_2 x30_2).f0)).f1) ((rd_T52 l0_1 ((rd_T56 l0_2 x30_2).f0)).f2) ((rd_T52 l0_1 ((rd_T56 l0_2 x30_2).f0)).f3) ((rd_T52 l0_1 ((rd_T56 l0_2 x30_2).f0)).f4) false _ A35.out).mono ?_
      rintro e w62 ⟨rfl, hb⟩
      refine ⟨_, rfl, ?_⟩
      have n0_ := Aside0.mk (zb7 BK310.out hb)
      have n1_ := Aside0.mk (zb7 BK315.out hb)
      have n2_ := Aside0.mk (below_step (zB7_2) hb)
      clear BK310 BK315 HB
      have BK310 := n0_
      have BK315 := n1_
      have HB := n2_
      clear n0_ n1_ n2_
      (try clear hb)
      (try clear hb2)
      (try clear hk)
      (try clear hi)
      refine hK.out _ _ ⟨(blk_cell BK315.out 0).trans rfl, (blk_cell BK315.out 1).trans rfl, (blk_cell BK310.out 0).trans rfl, (blk_cell BK310.out 1).trans rfl, (blk_cell BK310.out 2).trans rfl, ((HB.out.cell (World.block_lt_of_cell? w _ hw322_0)).trans hw322_0), ((HB.out.cell (World.block_lt_of_cell? w _ hw322_1)).trans hw322_1), ((HB.out.cell (World.block_lt_of_cell? w _ hw322_2)).trans hw322_2), ((HB.out.cell (World.block_lt_of_cell? w _ hw322_3)).trans hw322_3), ((HB.out.cell (World.block_lt_of_cell? w _ hw322_4)).trans hw322_4)⟩ (fun hHeld => ?_)
      clear hK K
      refine norm_ (a' := ?_) ?_ ?_
      rotate_left
      ·show Act.put _ (some 59) _ = _
       simp only [Act.put, List.setIfInBounds_toArray, List.set_cons_zero, List.set_cons_succ, i64_w, i32_w]
       rfl
      refine pure_ (i := 25) (N := some 60) (v := ?_) (a' := ?_) zq7_26 rfl rfl (any_of HT_.out (by kernel_rfl)) (fun _ _ _ h => h) (Or.inl ⟨by rfl, ?_⟩) ?_ ?_
      rotate_left
      ·intro w'
       go_simp
       with_reducible rfl
      rotate_left
      ·exact zV7
      refine pure_ (i := 26) (N := some 61) (v := ?_) (a' := ?_) zq7_27 rfl rfl (any_of HT_.out (by kernel_rfl)) (fun _ _ _ h => h) (Or.inl ⟨by rfl, ?_⟩) ?_ ?_
      rotate_left
      ·intro w'
       go_simp
       with_reducible rfl
      rotate_left
      ·exact zV7
      refine pure_ (i := 27) (N := some 62) (v := ?_) (a' := ?_) zq7_28 rfl rfl (any_of HT_.out (by kernel_rfl)) (fun _ _ _ h => h) (Or.inl ⟨by rfl, ?_⟩) ?_ ?_
      rotate_left
      ·intro w'
       go_simp
       with_reducible rfl
      rotate_left
      ·exact zV7
      refine pure_ (i := 28) (N := some 63) (v := undef) (a' := ?_) zq7_29 rfl rfl (any_of HT_.out (by kernel_rfl)) (fun _ _ _ h => h) (Or.inr ⟨by rfl, rfl⟩) ?_ ?_
      rotate_left
      ·exact zV7
      refine pure_ (i := 29) (N := some 64) (v := undef) (a' := ?_) zq7_30 rfl rfl (any_of HT_.out (by kernel_rfl)) (fun _ _ _ h => h) (Or.inr ⟨by rfl, rfl⟩) ?_ ?_
      rotate_left
      ·exact zV7
      refine pure_ (i := 30) (N := some 65) (v := undef) (a' := ?_) zq7_31 rfl rfl (any_of HT_.out (by kernel_rfl)) (fun _ _ _ h => h) (Or.inr ⟨by rfl, rfl⟩) ?_ ?_
      rotate_left
      ·exact zV7
      refine pure_ (i := 31) (N := some 66) (v := undef) (a' := ?_) zq7_32 rfl rfl (any_of HT_.out (by kernel_rfl)) (fun _ _ _ h => h) (Or.inr ⟨by rfl, rfl⟩) ?_ ?_
      rotate_left
      ·exact zV7
      refine pure_ (i := 32) (N := some 67) (v := ?_) (a' := ?_) zq7_33 rfl rfl (any_of HT_.out (by kernel_rfl)) (fun _ _ _ h => h) (Or.inl ⟨by rfl, ?_⟩) ?_ ?_
      rotate_left
      ·intro w'
       go_simp
       with_reducible rfl
      rotate_left
      ·exact zV7
      refine done_ (done_of HT_.out (by kernel_rfl)) ?_
      try go_wp2
      go_ret
      exact ⟨zE7, zB7_2⟩
     subst c36
     have H1 : ((impl_nameOk.f k2 ((rd_T56 l0_2 x30_2).f1)).bind fun t324 => (if t324 = true then (impl_PartOk.l0 k2 l0_2 (l0_2.length : Int) (wrap64 (x30_2 + 1)) a0_0 l0_1 l0_2) else (some false))) = some r := by rw [if_pos rfl] at H; exact H
     clear H
     have H := H1
     clear H1
     replace H := Option.bind_eq_some_iff.mp H
     obtain ⟨t324, A370, H⟩ := H
     replace H : (if t324 = true then (impl_PartOk.l0 k2 l0_2 (l0_2.length : Int) (wrap64 (x30_2 + 1)) a0_0 l0_1 l0_2) else (some false)) = some r := H
     have A37 := Aside0.mk A370
     clear A370
     by_cases c38 : t324 = true
     rotate_left
     ·replace c38 := Bool.eq_false_iff.mpr c38
      subst c38
      have H1 : (some false) = some r := by rw [if_neg (show ¬ (false = true) by decide)] at H; exact H
      clear H
      have H := H1
      clear H1
      obtain rfl := Option.some.inj H
      have p314 : 0 ≤ (x30_2 : Int) := zA7
      have q314 : x30_2 < (l0_2.length : Int) := zA7
      obtain ⟨ad314, e314, hx314_0, hx314_1⟩ := at_T56 HR0_2.out x30_2 p314 q314
      cases e314
      replace hx314_0 := (HB.out.cell (World.block_lt_of_cell? w _ hx314_0)).trans hx314_0
      replace hx314_1 := (HB.out.cell (World.block_lt_of_cell? w _ hx314_1)).trans hx314_1
      replace p314 := eq_true p314
      replace q314 := eq_true q314
      try go_wp2_with (first | ((with_reducible refine gate_dst (N := 4) rfl ?_); (try (refine gate_guard (by rfl) ?_; dsimp only)); refine box_event ?hg (N := 4) ?hd (cs := #[.int .i64 0, .string (⟨#[]⟩ : ByteArray)]) (t := 56) ?hr ?_; (case hd => rfl); (case hg => rfl); (case hr => first | (go_simp; done) | (go_simp; rfl)); intro gb315 hg w47 hbox hb; have n0_ := Aside0.mk (zb7 BK310.out hb); have n1_ := Aside0.mk (below_step (zB7_1) hb); have n2_ := Aside0.mk (hbox); have n3_ := Aside0.mk ((by rw [hg]; exact (below_size (zB7_1)) : w.heap.size ≤ gb315)); have n4_ := Aside0.mk ((by rw [hg]; exact (below_size (zB7_1)) : w.heap.size ≤ gb315)); have n5_ := Aside0.mk ((zn7 BK310.out hg : gb310 ≠ gb315)); have n6_ := Aside0.mk ((zm7 BK310.out hg : gb315 ≠ gb310)); clear BK310; clear HB; have BK310 := n0_; have HB := n1_; have BK315 := n2_; have GW315 := n3_; have GE315 := n4_; have NB310_315 := n5_; have NB315_310 := n6_; clear n0_ n1_ n2_ n3_ n4_ n5_ n6_; clear hb hbox hg; have hnb48 := NB315_310.out; have hnc48 := NB310_315.out; obtain ⟨hcz49_0, hcz49_1, hfz49_0, hfz49_1⟩ := zc7_2 (w := w47) BK315.out))
      have n0_ : Aside0 (((w47.setCell ⟨gb315, 0, none⟩ (.int .i64 ((rd_T56 l0_2 x30_2).f0))).setCell ⟨gb315, 1, none⟩ (.string ((rd_T56 l0_2 x30_2).f1))).heap[gb310]? = some (.cells #[.string a0_0, .slice A0_1 l0_1.length c0_1, .slice (some ad314) l0_2.length c0_2] 45 (0, 0))) := ⟨by refine zP7 ?_; refine blk_far ?_ NB310_315.out _; refine zP7 ?_; refine blk_far ?_ NB310_315.out _; refine zP7 ?_; exact BK310.out⟩
      have n1_ : Aside0 (((w47.setCell ⟨gb315, 0, none⟩ (.int .i64 ((rd_T56 l0_2 x30_2).f0))).setCell ⟨gb315, 1, none⟩ (.string ((rd_T56 l0_2 x30_2).f1))).heap[gb315]? = some (.cells #[.int .i64 ((rd_T56 l0_2 x30_2).f0), .string ((rd_T56 l0_2 x30_2).f1)] 56 (0, 0))) := ⟨by refine zP7 ?_; refine blk_put (cs := #[.int .i64 ((rd_T56 l0_2 x30_2).f0), .string (⟨#[]⟩ : ByteArray)]) ?_ 1 _ rfl; refine zP7 ?_; refine blk_put (cs := #[.int .i64 0, .string (⟨#[]⟩ : ByteArray)]) ?_ 0 _ rfl; refine zP7 ?_; exact BK315.out⟩
      have n2_ : Aside0 (Below w.heap.size w ((w47.setCell ⟨gb315, 0, none⟩ (.int .i64 ((rd_T56 l0_2 x30_2).f0))).setCell ⟨gb315, 1, none⟩ (.string ((rd_T56 l0_2 x30_2).f1)))) := ⟨zB7_2⟩
      (try clear BK310)
      (try clear BK315)
      (try clear HB)
      generalize ((w47.setCell ⟨gb315, 0, none⟩ (.int .i64 ((rd_T56 l0_2 x30_2).f0))).setCell ⟨gb315, 1, none⟩ (.string ((rd_T56 l0_2 x30_2).f1))) = w50 at n0_ n1_ n2_ ⊢
      have BK310 := n0_
      have BK315 := n1_
      have HB := n2_
      clear n0_ n1_ n2_
      have n0_ := Aside0.mk (blk_drew BK310.out)
      have n1_ := Aside0.mk (blk_drew BK315.out)
      have n2_ := Aside0.mk (below_drew1 HB.out)
      clear BK310 BK315 HB
      have BK310 := n0_
      have BK315 := n1_
      have HB := n2_
      clear n0_ n1_ n2_
      have p322 : 0 ≤ (((rd_T56 l0_2 x30_2).f0) : Int) := zA7
      have q322 : ((rd_T56 l0_2 x30_2).f0) < (l0_1.length : Int) := zA7
      obtain ⟨ad322, e322, hx322_0, hx322_1, hx322_2, hx322_3, hx322_4⟩ := at_T52 HR0_1.out ((rd_T56 l0_2 x30_2).f0) p322 q322
      have hw322_4 := hx322_4
      have hw322_3 := hx322_3
      have hw322_2 := hx322_2
      have hw322_1 := hx322_1
      have hw322_0 := hx322_0
      cases e322
      replace hx322_0 := (HB.out.cell (World.block_lt_of_cell? w _ hx322_0)).trans hx322_0
      replace hx322_1 := (HB.out.cell (World.block_lt_of_cell? w _ hx322_1)).trans hx322_1
      replace hx322_2 := (HB.out.cell (World.block_lt_of_cell? w _ hx322_2)).trans hx322_2
      replace hx322_3 := (HB.out.cell (World.block_lt_of_cell? w _ hx322_3)).trans hx322_3
      replace hx322_4 := (HB.out.cell (World.block_lt_of_cell? w _ hx322_4)).trans hx322_4
      replace p322 := eq_true p322
      replace q322 := eq_true q322
      refine start_ (n := 33) (S := fun w' => w'.cell? ⟨gb315, 0, none⟩ = some (.int .i64 ((rd_T56 l0_2 x30_2).f0)) ∧ w'.cell? ⟨gb315, 1, none⟩ = some (.string ((rd_T56 l0_2 x30_2).f1)) ∧ w'.cell? ⟨gb310, 0, none⟩ = some (.string a0_0) ∧ w'.cell? ⟨gb310, 1, none⟩ = some (.slice (some ad322) l0_1.length c0_1) ∧ w'.cell? ⟨gb310, 2, none⟩ = some (.slice (some ad314) l0_2.length c0_2) ∧ w'.cell? (ad322.add ((((rd_T56 l0_2 x30_2).f0)).toNat * 5)) = some (.int .i64 ((rd_T52 l0_1 ((rd_T56 l0_2 x30_2).f0)).f0)) ∧ w'.cell? ⟨(ad322.add ((((rd_T56 l0_2 x30_2).f0)).toNat * 5)).block, (ad322.add ((((rd_T56 l0_2 x30_2).f0)).toNat * 5)).off + 1, none⟩ = some (.int .i64 ((rd_T52 l0_1 ((rd_T56 l0_2 x30_2).f0)).f1)) ∧ w'.cell? ⟨(ad322.add ((((rd_T56 l0_2 x30_2).f0)).toNat * 5)).block, (ad322.add ((((rd_T56 l0_2 x30_2).f0)).toNat * 5)).off + 2, none⟩ = some (.int .i64 ((rd_T52 l0_1 ((rd_T56 l0_2 x30_2).f0)).f2)) ∧ w'.cell? ⟨(ad322.add ((((rd_T56 l0_2 x30_2).f0)).toNat * 5)).block, (ad322.add ((((rd_T56 l0_2 x30_2).f0)).toNat * 5)).off + 3, none⟩ = some (.int .i64 ((rd_T52 l0_1 ((rd_T56 l0_2 x30_2).f0)).f3)) ∧ w'.cell? ⟨(ad322.add ((((rd_T56 l0_2 x30_2).f0)).toNat * 5)).block, (ad322.add ((((rd_T56 l0_2 x30_2).f0)).toNat * 5)).off + 4, none⟩ = some (.int .i64 ((rd_T52 l0_1 ((rd_T56 l0_2 x30_2).f0)).f4))) (ds := []) zq7_0 (by kernel_rfl) rfl rfl ⟨(blk_cell BK315.out 0).trans rfl, (blk_cell BK315.out 1).trans rfl, (blk_cell BK310.out 0).trans rfl, (blk_cell BK310.out 1).trans rfl, (blk_cell BK310.out 2).trans rfl, ((HB.out.cell (World.block_lt_of_cell? w _ hw322_0)).trans hw322_0), ((HB.out.cell (World.block_lt_of_cell? w _ hw322_1)).trans hw322_1), ((HB.out.cell (World.block_lt_of_cell? w _ hw322_2)).trans hw322_2), ((HB.out.cell (World.block_lt_of_cell? w _ hw322_3)).trans hw322_3), ((HB.out.cell (World.block_lt_of_cell? w _ hw322_4)).trans hw322_4)⟩ (fun hHeld => ?_); refine with_tabW impl_PartOk.tab6 impl_PartOk.bits6 (fun HT_ HW_ => ?_)
      generalize w50.drew = w51 at BK310 BK315 HB hx322_0 hx322_1 hx322_2 hx322_3 hx322_4 hHeld ⊢
      refine pure_ (i := 0) (N := some 35) (v := ?_) (a' := ?_) zq7_1 rfl rfl (any_of HT_.out (by kernel_rfl)) (fun _ _ _ h => h) (Or.inl ⟨by rfl, ?_⟩) ?_ ?_
      rotate_left
      ·intro w'
       go_simp
       with_reducible rfl
      rotate_left
      ·exact zV7
      refine pure_ (i := 2) (N := some 37) (v := ?_) (a' := ?_) zq7_2 rfl rfl (any_of HT_.out (by kernel_rfl)) (fun _ _ _ h => h) (Or.inl ⟨by rfl, ?_⟩) ?_ ?_
      rotate_left
      ·intro w'
       go_simp
       with_reducible rfl
      rotate_left
      ·exact zV7
      refine take_ (i := 1) (N := some 36) (v := ?_) (a' := ?_) zq7_3 rfl rfl (take_ofW HT_.out HW_.out (by kernel_rfl)) (fun _ _ _ h => h) (Or.inl ⟨by rfl, ?_⟩) hHeld ?_ ?_
      rotate_left
      ·rintro w' ⟨s0, s1, s2, s3, s4, s5, s6, s7, s8, s9⟩
       go_simp
       with_reducible rfl
      rotate_left
      ·exact zV7
      refine take_ (i := 3) (N := some 38) (v := ?_) (a' := ?_) zq7_4 rfl rfl (take_ofW HT_.out HW_.out (by kernel_rfl)) (fun _ _ _ h => h) (Or.inl ⟨by rfl, ?_⟩) hHeld ?_ ?_
      rotate_left
      ·rintro w' ⟨s0, s1, s2, s3, s4, s5, s6, s7, s8, s9⟩
       go_simp
       with_reducible rfl
      rotate_left
      ·exact zV7
      refine pure_ (i := 4) (N := some 39) (v := ?_) (a' := ?_) zq7_5 rfl rfl (any_of HT_.out (by kernel_rfl)) (fun _ _ _ h => h) (Or.inl ⟨by rfl, ?_⟩) ?_ ?_
      rotate_left
      ·intro w'
       go_simp
       with_reducible rfl
      rotate_left
      ·exact zV7
      refine pure_ (i := 5) (N := some 40) (v := ?_) (a' := ?_) zq7_6 rfl rfl (any_of HT_.out (by kernel_rfl)) (fun _ _ _ h => h) (Or.inl ⟨by rfl, ?_⟩) ?_ ?_
      rotate_left
      ·intro w'
       go_simp
       with_reducible rfl
      rotate_left
      ·exact zV7
      refine one_ (i := 6) (N := some 41) zq7_7 rfl rfl (one_of HT_.out (by kernel_rfl)) (by decide) (fun K hK => ?_)
      refine goes_ Try.func107 (by kernel_rfl) rfl #[.int .i64 ((rd_T56 l0_2 x30_2).f0), .int .i64 0, .int .i64 (wrap64 ((l0_1.length : Int) - 1))] (by rfl) rfl rfl zT7 ?_
      with_reducible refine (impl_from.calls ((rd_T56 l0_2 x30_2).f0) 0 (wrap64 ((l0_1.length : Int) - 1)) true _ A20.out).mono ?_
      rintro e w' ⟨rfl, ⟨nd, rfl⟩⟩
      refine ⟨_, rfl, ?_⟩
      have q52 : (x30_2 : Int) ≤ ((l0_2.length : Int) : Int) := zA7
      obtain ⟨i052, hi052, _, hsz52, _⟩ := info_parts info56
      have hroom52 : l0_2.length ≤ c0_2 := HC0_2.out
      have hC52 : Kd.C k56 _ (some ad314) l0_2.length l0_2 := HR0_2.out
      have hcut52 := cut_to (P := Try.prog) 43 56 .i64 Try.underlying43 hi052 (some ad314) l0_2.length c0_2 x30_2 (zA7) q52 hroom52
      have hr52 := Kd.C_take (m := (x30_2 : Int).toNat) hC52 (by omega)
      have hy52 : y317.length = (x30_2 : Int).toNat := (by rw [Ny317.out, List.length_take]; omega)
      rw [← Ny317.out] at hr52
      rw [← hy52] at hcut52
      have HR320 := Aside0.mk hr52
      have HC320 := Aside0.mk (show y317.length ≤ c0_2 from by omega)
      clear hr52 hC52 hroom52 hi052 hsz52
      have KY52 := Aside0.mk hy52
      clear hy52
      replace q52 := eq_true q52
      refine hK.out _ _ ⟨(blk_cell BK315.out 0).trans rfl, (blk_cell BK315.out 1).trans rfl, (blk_cell BK310.out 0).trans rfl, (blk_cell BK310.out 1).trans rfl, (blk_cell BK310.out 2).trans rfl, ((HB.out.cell (World.block_lt_of_cell? w _ hw322_0)).trans hw322_0), ((HB.out.cell (World.block_lt_of_cell? w _ hw322_1)).trans hw322_1), ((HB.out.cell (World.block_lt_of_cell? w _ hw322_2)).trans hw322_2), ((HB.out.cell (World.block_lt_of_cell? w _ hw322_3)).trans hw322_3), ((HB.out.cell (World.block_lt_of_cell? w _ hw322_4)).trans hw322_4)⟩ (fun hHeld => ?_)
      clear hK K
      refine norm_ (a' := ?_) ?_ ?_
      rotate_left
      ·show Act.put _ (some 41) _ = _
       simp only [Act.put, List.setIfInBounds_toArray, List.set_cons_zero, List.set_cons_succ, i64_w, i32_w]
       rfl
      refine pure_ (i := 7) (N := some 42) (v := ?_) (a' := ?_) zq7_8 rfl rfl (any_of HT_.out (by kernel_rfl)) (fun _ _ _ h => h) (Or.inl ⟨by rfl, ?_⟩) ?_ ?_
      rotate_left
      ·intro w'
       go_simp
       with_reducible rfl
      rotate_left
      ·exact zV7
      refine pure_ (i := 8) (N := some 43) (v := ?_) (a' := ?_) zq7_9 rfl rfl (any_of HT_.out (by kernel_rfl)) (fun _ _ _ h => h) (Or.inl ⟨by rfl, ?_⟩) ?_ ?_
      rotate_left
      ·intro w'
       go_simp
       with_reducible rfl
      rotate_left
      ·exact zV7
      refine pure_ (i := 9) (N := some 44) (v := ?_) (a' := ?_) zq7_10 rfl rfl (any_of HT_.out (by kernel_rfl)) (fun _ _ _ h => h) (Or.inl ⟨by rfl, ?_⟩) ?_ ?_
      rotate_left
      ·intro w'
       go_simp
       with_reducible rfl
      rotate_left
      ·exact zV7
      refine pure_ (i := 11) (N := some 46) (v := ?_) (a' := ?_) zq7_11 rfl rfl (any_of HT_.out (by kernel_rfl)) (fun _ _ _ h => h) (Or.inl ⟨by rfl, ?_⟩) ?_ ?_
      rotate_left
      ·intro w'
       go_simp
       with_reducible rfl
      rotate_left
      ·exact zV7
      refine pure_ (i := 13) (N := some 48) (v := ?_) (a' := ?_) zq7_12 rfl rfl (any_of HT_.out (by kernel_rfl)) (fun _ _ _ h => h) (Or.inl ⟨by rfl, ?_⟩) ?_ ?_
      rotate_left
      ·intro w'
       go_simp
       with_reducible rfl
      rotate_left
      ·exact zV7
      refine take_ (i := 10) (N := some 45) (v := ?_) (a' := ?_) zq7_13 rfl rfl (take_ofW HT_.out HW_.out (by kernel_rfl)) (fun _ _ _ h => h) (Or.inl ⟨by rfl, ?_⟩) hHeld ?_ ?_
      rotate_left
      ·rintro w' ⟨s0, s1, s2, s3, s4, s5, s6, s7, s8, s9⟩
       go_simp
       with_reducible rfl
      rotate_left
      ·exact zV7
      refine pure_ (i := 12) (N := some 47) (v := ?_) (a' := ?_) zq7_14 rfl rfl (any_of HT_.out (by kernel_rfl)) (fun _ _ _ h => h) (Or.inl ⟨by rfl, ?_⟩) ?_ ?_
      rotate_left
      ·intro w'
       go_simp
       with_reducible rfl
      rotate_left
      ·exact zV7
      refine take_ (i := 14) (N := some 49) (v := ?_) (a' := ?_) zq7_15 rfl rfl (take_ofW HT_.out HW_.out (by kernel_rfl)) (fun _ _ _ h => h) (Or.inl ⟨by rfl, ?_⟩) hHeld ?_ ?_
      rotate_left
      ·rintro w' ⟨s0, s1, s2, s3, s4, s5, s6, s7, s8, s9⟩
       go_simp
       with_reducible rfl
      rotate_left
      ·exact zV7
      refine one_ (i := 15) (N := some 50) zq7_16 rfl rfl (one_of HT_.out (by kernel_rfl)) (by decide) (fun K hK => ?_)
      refine goes_ Try.func111 (by kernel_rfl) rfl #[.slice (some ad314) y317.length c0_2, .int .i64 ((rd_T56 l0_2 x30_2).f0)] (by rfl) rfl rfl zT7 ?_
      with_reducible refine (impl_isRef.calls _ _ y317 ((rd_T56 l0_2 x30_2).f0) false _ ?side1 ?side2 A24.out).mono ?_
      (case side1 => repeat (first | exact (Kd.C_below HR320.out (zB7_2)) | (with_reducible refine Kd.C_alloc ?_ _) | (with_reducible refine Kd.C_drewN ?_ _) | (with_reducible refine Kd.C_drew ?_)))
      (case side2 => exact HC320.out)
      rintro e w53 ⟨rfl, hb⟩
      refine ⟨_, rfl, ?_⟩
      have n0_ := Aside0.mk (zb7 BK310.out hb)
      have n1_ := Aside0.mk (zb7 BK315.out hb)
      have n2_ := Aside0.mk (below_step (zB7_2) hb)
      clear BK310 BK315 HB
      have BK310 := n0_
      have BK315 := n1_
      have HB := n2_
      clear n0_ n1_ n2_
      (try clear hb)
      (try clear hb2)
      (try clear hk)
      (try clear hi)
      refine hK.out _ _ ⟨(blk_cell BK315.out 0).trans rfl, (blk_cell BK315.out 1).trans rfl, (blk_cell BK310.out 0).trans rfl, (blk_cell BK310.out 1).trans rfl, (blk_cell BK310.out 2).trans rfl, ((HB.out.cell (World.block_lt_of_cell? w _ hw322_0)).trans hw322_0), ((HB.out.cell (World.block_lt_of_cell? w _ hw322_1)).trans hw322_1), ((HB.out.cell (World.block_lt_of_cell? w _ hw322_2)).trans hw322_2), ((HB.out.cell (World.block_lt_of_cell? w _ hw322_3)).trans hw322_3), ((HB.out.cell (World.block_lt_of_cell? w _ hw322_4)).trans hw322_4)⟩ (fun hHeld => ?_)
      clear hK K
      refine norm_ (a' := ?_) ?_ ?_
      rotate_left
      ·show Act.put _ (some 50) _ = _
       simp only [Act.put, List.setIfInBounds_toArray, List.set_cons_zero, List.set_cons_succ, i64_w, i32_w]
       rfl
      refine pure_ (i := 16) (N := some 51) (v := ?_) (a' := ?_) zq7_17 rfl rfl (any_of HT_.out (by kernel_rfl)) (fun _ _ _ h => h) (Or.inl ⟨by rfl, ?_⟩) ?_ ?_
      rotate_left
      ·intro w'
       go_simp
       with_reducible rfl
      rotate_left
      ·exact zV7
      refine pure_ (i := 17) (N := some 52) (v := ?_) (a' := ?_) zq7_18 rfl rfl (any_of HT_.out (by kernel_rfl)) (fun _ _ _ h => h) (Or.inl ⟨by rfl, ?_⟩) ?_ ?_
      rotate_left
      ·intro w'
       go_simp
       with_reducible rfl
      rotate_left
      ·exact zV7
      refine pure_ (i := 18) (N := some 53) (v := ?_) (a' := ?_) zq7_19 rfl rfl (any_of HT_.out (by kernel_rfl)) (fun _ _ _ h => h) (Or.inl ⟨by rfl, ?_⟩) ?_ ?_
      rotate_left
      ·intro w'
       go_simp
       with_reducible rfl
      rotate_left
      ·exact zV7
      refine pure_ (i := 20) (N := some 55) (v := ?_) (a' := ?_) zq7_34 rfl rfl (any_of HT_.out (by kernel_rfl)) (fun _ _ _ h => h) (Or.inl ⟨by rfl, ?_⟩) ?_ ?_
      rotate_left
      ·intro w'
       go_simp
       with_reducible rfl
      rotate_left
      ·exact zV7
      refine take_ (i := 19) (N := some 54) (v := ?_) (a' := ?_) zq7_21 rfl rfl (take_ofW HT_.out HW_.out (by kernel_rfl)) (fun _ _ _ h => h) (Or.inl ⟨by rfl, ?_⟩) hHeld ?_ ?_
      rotate_left
      ·rintro w' ⟨s0, s1, s2, s3, s4, s5, s6, s7, s8, s9⟩
       go_simp
       with_reducible rfl
      rotate_left
      ·exact zV7
      refine take_ (i := 21) (N := some 56) (v := ?_) (a' := ?_) zq7_22 rfl rfl (take_ofW HT_.out HW_.out (by kernel_rfl)) (fun _ _ _ h => h) (Or.inl ⟨by rfl, ?_⟩) hHeld ?_ ?_
      rotate_left
      ·rintro w' ⟨s0, s1, s2, s3, s4, s5, s6, s7, s8, s9⟩
       go_simp
       with_reducible rfl
      rotate_left
      ·exact zV7
      refine pure_ (i := 22) (N := some 57) (v := ?_) (a' := ?_) zq7_23 rfl rfl (any_of HT_.out (by kernel_rfl)) (fun _ _ _ h => h) (Or.inl ⟨by rfl, ?_⟩) ?_ ?_
      rotate_left
      ·intro w'
       go_simp
       with_reducible rfl
      rotate_left
      ·exact zV7
      refine take_ (i := 23) (N := some 58) (v := ?_) (a' := ?_) zq7_24 rfl rfl (take_ofW HT_.out HW_.out (by kernel_rfl)) (fun _ _ _ h => h) (Or.inl ⟨by rfl, ?_⟩) hHeld ?_ ?_
      rotate_left
      ·rintro w' ⟨s0, s1, s2, s3, s4, s5, s6, s7, s8, s9⟩
       go_simp
       with_reducible rfl
      rotate_left
      ·exact zV7
      refine one_ (i := 24) (N := some 59) zq7_25 rfl rfl (one_of HT_.out (by kernel_rfl)) (by decide) (fun K hK => ?_)
      refine goes_ Try.func112 (by kernel_rfl) rfl #[.agg #[.int .i64 ((rd_T52 l0_1 ((rd_T56 l0_2 x30_2).f0)).f0), .int .i64 ((rd_T52 l0_1 ((rd_T56 l0_2 x30_2).f0)).f1), .int .i64 ((rd_T52 l0_1 ((rd_T56 l0_2 x30_2).f0)).f2), .int .i64 ((rd_T52 l0_1 ((rd_T56 l0_2 x30_2).f0)).f3), .int .i64 ((rd_T52 l0_1 ((rd_T56 l0_2 x30_2).f0)).f4)]] (by rfl) rfl rfl zT7 ?_
      with_reducible refine (impl_goesTo.calls ((rd_T52 l0_1 ((rd_T56 l0_2 x30_2).f0)).f0) ((rd_T52 l0_1 ((rd_T56 l0_2 x30_2).f0)).f1) ((rd_T52 l0_1 ((rd_T56 l0_2 x30_2).f0)).f2) ((rd_T52 l0_1 ((rd_T56 l0_2 x30_2).f0)).f3) ((rd_T52 l0_1 ((rd_T56 l0_2 x30_2).f0)).f4) true _ A35.out).mono ?_
      rintro e w54 ⟨rfl, hb⟩
      refine ⟨_, rfl, ?_⟩
      have n0_ := Aside0.mk (zb7 BK310.out hb)
      have n1_ := Aside0.mk (zb7 BK315.out hb)
      have n2_ := Aside0.mk (below_step (zB7_2) hb)
      clear BK310 BK315 HB
      have BK310 := n0_
      have BK315 := n1_
      have HB := n2_
      clear n0_ n1_ n2_
      (try clear hb)
      (try clear hb2)
      (try clear hk)
      (try clear hi)
      refine hK.out _ _ ⟨(blk_cell BK315.out 0).trans rfl, (blk_cell BK315.out 1).trans rfl, (blk_cell BK310.out 0).trans rfl, (blk_cell BK310.out 1).trans rfl, (blk_cell BK310.out 2).trans rfl, ((HB.out.cell (World.block_lt_of_cell? w _ hw322_0)).trans hw322_0), ((HB.out.cell (World.block_lt_of_cell? w _ hw322_1)).trans hw322_1), ((HB.out.cell (World.block_lt_of_cell? w _ hw322_2)).trans hw322_2), ((HB.out.cell (World.block_lt_of_cell? w _ hw322_3)).trans hw322_3), ((HB.out.cell (World.block_lt_of_cell? w _ hw322_4)).trans hw322_4)⟩ (fun hHeld => ?_)
      clear hK K
      refine norm_ (a' := ?_) ?_ ?_
      rotate_left
      ·show Act.put _ (some 59) _ = _
       simp only [Act.put, List.setIfInBounds_toArray, List.set_cons_zero, List.set_cons_succ, i64_w, i32_w]
       rfl
      refine pure_ (i := 25) (N := some 60) (v := ?_) (a' := ?_) zq7_26 rfl rfl (any_of HT_.out (by kernel_rfl)) (fun _ _ _ h => h) (Or.inl ⟨by rfl, ?_⟩) ?_ ?_
      rotate_left
      ·intro w'
       go_simp
       with_reducible rfl
      rotate_left
      ·exact zV7
      refine pure_ (i := 26) (N := some 61) (v := ?_) (a' := ?_) zq7_27 rfl rfl (any_of HT_.out (by kernel_rfl)) (fun _ _ _ h => h) (Or.inl ⟨by rfl, ?_⟩) ?_ ?_
      rotate_left
      ·intro w'
       go_simp
       with_reducible rfl
      rotate_left
      ·exact zV7
      refine pure_ (i := 27) (N := some 62) (v := ?_) (a' := ?_) zq7_28 rfl rfl (any_of HT_.out (by kernel_rfl)) (fun _ _ _ h => h) (Or.inl ⟨by rfl, ?_⟩) ?_ ?_
      rotate_left
      ·intro w'
       go_simp
       with_reducible rfl
      rotate_left
      ·exact zV7
      refine pure_ (i := 28) (N := some 63) (v := ?_) (a' := ?_) zq7_29 rfl rfl (any_of HT_.out (by kernel_rfl)) (fun _ _ _ h => h) (Or.inl ⟨by rfl, ?_⟩) ?_ ?_
      rotate_left
      ·intro w'
       go_simp
       with_reducible rfl
      rotate_left
      ·exact zV7
      refine take_ (i := 29) (N := some 64) (v := ?_) (a' := ?_) zq7_30 rfl rfl (take_ofW HT_.out HW_.out (by kernel_rfl)) (fun _ _ _ h => h) (Or.inl ⟨by rfl, ?_⟩) hHeld ?_ ?_
      rotate_left
      ·rintro w' ⟨s0, s1, s2, s3, s4, s5, s6, s7, s8, s9⟩
       go_simp
       with_reducible rfl
      rotate_left
      ·exact zV7
      refine one_ (i := 30) (N := some 65) zq7_31 rfl rfl (one_of HT_.out (by kernel_rfl)) (by decide) (fun K hK => ?_)
      refine goes_ Try.func106 (by kernel_rfl) rfl #[.string ((rd_T56 l0_2 x30_2).f1)] (by rfl) rfl rfl zT7 ?_
      with_reducible refine (impl_nameOk.calls k2 ((rd_T56 l0_2 x30_2).f1) false _ A37.out).mono ?_
      rintro e w' ⟨rfl, ⟨nd, rfl⟩⟩
      refine ⟨_, rfl, ?_⟩
      refine hK.out _ _ ⟨(blk_cell BK315.out 0).trans rfl, (blk_cell BK315.out 1).trans rfl, (blk_cell BK310.out 0).trans rfl, (blk_cell BK310.out 1).trans rfl, (blk_cell BK310.out 2).trans rfl, ((HB.out.cell (World.block_lt_of_cell? w _ hw322_0)).trans hw322_0), ((HB.out.cell (World.block_lt_of_cell? w _ hw322_1)).trans hw322_1), ((HB.out.cell (World.block_lt_of_cell? w _ hw322_2)).trans hw322_2), ((HB.out.cell (World.block_lt_of_cell? w _ hw322_3)).trans hw322_3), ((HB.out.cell (World.block_lt_of_cell? w _ hw322_4)).trans hw322_4)⟩ (fun hHeld => ?_)
      clear hK K
      refine norm_ (a' := ?_) ?_ ?_
      rotate_left
      ·show Act.put _ (some 65) _ = _
       simp only [Act.put, List.setIfInBounds_toArray, List.set_cons_zero, List.set_cons_succ, i64_w, i32_w]
       rfl
      refine pure_ (i := 31) (N := some 66) (v := ?_) (a' := ?_) zq7_32 rfl rfl (any_of HT_.out (by kernel_rfl)) (fun _ _ _ h => h) (Or.inl ⟨by rfl, ?_⟩) ?_ ?_
      rotate_left
      ·intro w'
       go_simp
       with_reducible rfl
      rotate_left
      ·exact zV7
      refine pure_ (i := 32) (N := some 67) (v := ?_) (a' := ?_) zq7_33 rfl rfl (any_of HT_.out (by kernel_rfl)) (fun _ _ _ h => h) (Or.inl ⟨by rfl, ?_⟩) ?_ ?_
      rotate_left
      ·intro w'
       go_simp
       with_reducible rfl
      rotate_left
      ·exact zV7
      refine done_ (done_of HT_.out (by kernel_rfl)) ?_
      try go_wp2
      go_ret
      exact ⟨zE7, zB7_2⟩
     subst c38
     have H1 : (impl_PartOk.l0 k2 l0_2 (l0_2.length : Int) (wrap64 (x30_2 + 1)) a0_0 l0_1 l0_2) = some r := by rw [if_pos rfl] at H; exact H
     clear H
     have H := H1
     clear H1
     have H' := Aside0.mk H
     clear H
     have p314 : 0 ≤ (x30_2 : Int) := zA7
     have q314 : x30_2 < (l0_2.length : Int) := zA7
     obtain ⟨ad314, e314, hx314_0, hx314_1⟩ := at_T56 HR0_2.out x30_2 p314 q314
     cases e314
     replace hx314_0 := (HB.out.cell (World.block_lt_of_cell? w _ hx314_0)).trans hx314_0
     replace hx314_1 := (HB.out.cell (World.block_lt_of_cell? w _ hx314_1)).trans hx314_1
     replace p314 := eq_true p314
     replace q314 := eq_true q314
     try go_wp2_with (first | ((with_reducible refine gate_dst (N := 4) rfl ?_); (try (refine gate_guard (by rfl) ?_; dsimp only)); refine box_event ?hg (N := 4) ?hd (cs := #[.int .i64 0, .string (⟨#[]⟩ : ByteArray)]) (t := 56) ?hr ?_; (case hd => rfl); (case hg => rfl); (case hr => first | (go_simp; done) | (go_simp; rfl)); intro gb315 hg w39 hbox hb; have n0_ := Aside0.mk (zb7 BK310.out hb); have n1_ := Aside0.mk (below_step (zB7_1) hb); have n2_ := Aside0.mk (hbox); have n3_ := Aside0.mk ((by rw [hg]; exact (below_size (zB7_1)) : w.heap.size ≤ gb315)); have n4_ := Aside0.mk ((by rw [hg]; exact (below_size (zB7_1)) : w.heap.size ≤ gb315)); have n5_ := Aside0.mk ((zn7 BK310.out hg : gb310 ≠ gb315)); have n6_ := Aside0.mk ((zm7 BK310.out hg : gb315 ≠ gb310)); clear BK310; clear HB; have BK310 := n0_; have HB := n1_; have BK315 := n2_; have GW315 := n3_; have GE315 := n4_; have NB310_315 := n5_; have NB315_310 := n6_; clear n0_ n1_ n2_ n3_ n4_ n5_ n6_; clear hb hbox hg; have hnb40 := NB315_310.out; have hnc40 := NB310_315.out; obtain ⟨hcz41_0, hcz41_1, hfz41_0, hfz41_1⟩ := zc7_2 (w := w39) BK315.out))
     have n0_ : Aside0 (((w39.setCell ⟨gb315, 0, none⟩ (.int .i64 ((rd_T56 l0_2 x30_2).f0))).setCell ⟨gb315, 1, none⟩ (.string ((rd_T56 l0_2 x30_2).f1))).heap[gb310]? = some (.cells #[.string a0_0, .slice A0_1 l0_1.length c0_1, .slice (some ad314) l0_2.length c0_2] 45 (0, 0))) := ⟨by refine zP7 ?_; refine blk_far ?_ NB310_315.out _; refine zP7 ?_; refine blk_far ?_ NB310_315.out _; refine zP7 ?_; exact BK310.out⟩
     have n1_ : Aside0 (((w39.setCell ⟨gb315, 0, none⟩ (.int .i64 ((rd_T56 l0_2 x30_2).f0))).setCell ⟨gb315, 1, none⟩ (.string ((rd_T56 l0_2 x30_2).f1))).heap[gb315]? = some (.cells #[.int .i64 ((rd_T56 l0_2 x30_2).f0), .string ((rd_T56 l0_2 x30_2).f1)] 56 (0, 0))) := ⟨by refine zP7 ?_; refine blk_put (cs := #[.int .i64 ((rd_T56 l0_2 x30_2).f0), .string (⟨#[]⟩ : ByteArray)]) ?_ 1 _ rfl; refine zP7 ?_; refine blk_put (cs := #[.int .i64 0, .string (⟨#[]⟩ : ByteArray)]) ?_ 0 _ rfl; refine zP7 ?_; exact BK315.out⟩
     have n2_ : Aside0 (Below w.heap.size w ((w39.setCell ⟨gb315, 0, none⟩ (.int .i64 ((rd_T56 l0_2 x30_2).f0))).setCell ⟨gb315, 1, none⟩ (.string ((rd_T56 l0_2 x30_2).f1)))) := ⟨zB7_2⟩
     (try clear BK310)
     (try clear BK315)
     (try clear HB)
     generalize ((w39.setCell ⟨gb315, 0, none⟩ (.int .i64 ((rd_T56 l0_2 x30_2).f0))).setCell ⟨gb315, 1, none⟩ (.string ((rd_T56 l0_2 x30_2).f1))) = w42 at n0_ n1_ n2_ ⊢
     have BK310 := n0_
     have BK315 := n1_
     have HB := n2_
     clear n0_ n1_ n2_
     have n0_ := Aside0.mk (blk_drew BK310.out)
     have n1_ := Aside0.mk (blk_drew BK315.out)
     have n2_ := Aside0.mk (below_drew1 HB.out)
     clear BK310 BK315 HB
     have BK310 := n0_
     have BK315 := n1_
     have HB := n2_
     clear n0_ n1_ n2_
     have p322 : 0 ≤ (((rd_T56 l0_2 x30_2).f0) : Int) := zA7
     have q322 : ((rd_T56 l0_2 x30_2).f0) < (l0_1.length : Int) := zA7
     obtain ⟨ad322, e322, hx322_0, hx322_1, hx322_2, hx322_3, hx322_4⟩ := at_T52 HR0_1.out ((rd_T56 l0_2 x30_2).f0) p322 q322
     have hw322_4 := hx322_4
     have hw322_3 := hx322_3
     have hw322_2 := hx322_2
     have hw322_1 := hx322_1
     have hw322_0 := hx322_0
     cases e322
     replace hx322_0 := (HB.out.cell (World.block_lt_of_cell? w _ hx322_0)).trans hx322_0
     replace hx322_1 := (HB.out.cell (World.block_lt_of_cell? w _ hx322_1)).trans hx322_1
     replace hx322_2 := (HB.out.cell (World.block_lt_of_cell? w _ hx322_2)).trans hx322_2
     replace hx322_3 := (HB.out.cell (World.block_lt_of_cell? w _ hx322_3)).trans hx322_3
     replace hx322_4 := (HB.out.cell (World.block_lt_of_cell? w _ hx322_4)).trans hx322_4
     replace p322 := eq_true p322
     replace q322 := eq_true q322
     refine start_ (n := 33) (S := fun w' => w'.cell? ⟨gb315, 0, none⟩ = some (.int .i64 ((rd_T56 l0_2 x30_2).f0)) ∧ w'.cell? ⟨gb315, 1, none⟩ = some (.string ((rd_T56 l0_2 x30_2).f1)) ∧ w'.cell? ⟨gb310, 0, none⟩ = some (.string a0_0) ∧ w'.cell? ⟨gb310, 1, none⟩ = some (.slice (some ad322) l0_1.length c0_1) ∧ w'.cell? ⟨gb310, 2, none⟩ = some (.slice (some ad314) l0_2.length c0_2) ∧ w'.cell? (ad322.add ((((rd_T56 l0_2 x30_2).f0)).toNat * 5)) = some (.int .i64 ((rd_T52 l0_1 ((rd_T56 l0_2 x30_2).f0)).f0)) ∧ w'.cell? ⟨(ad322.add ((((rd_T56 l0_2 x30_2).f0)).toNat * 5)).block, (ad322.add ((((rd_T56 l0_2 x30_2).f0)).toNat * 5)).off + 1, none⟩ = some (.int .i64 ((rd_T52 l0_1 ((rd_T56 l0_2 x30_2).f0)).f1)) ∧ w'.cell? ⟨(ad322.add ((((rd_T56 l0_2 x30_2).f0)).toNat * 5)).block, (ad322.add ((((rd_T56 l0_2 x30_2).f0)).toNat * 5)).off + 2, none⟩ = some (.int .i64 ((rd_T52 l0_1 ((rd_T56 l0_2 x30_2).f0)).f2)) ∧ w'.cell? ⟨(ad322.add ((((rd_T56 l0_2 x30_2).f0)).toNat * 5)).block, (ad322.add ((((rd_T56 l0_2 x30_2).f0)).toNat * 5)).off + 3, none⟩ = some (.int .i64 ((rd_T52 l0_1 ((rd_T56 l0_2 x30_2).f0)).f3)) ∧ w'.cell? ⟨(ad322.add ((((rd_T56 l0_2 x30_2).f0)).toNat * 5)).block, (ad322.add ((((rd_T56 l0_2 x30_2).f0)).toNat * 5)).off + 4, none⟩ = some (.int .i64 ((rd_T52 l0_1 ((rd_T56 l0_2 x30_2).f0)).f4))) (ds := []) zq7_0 (by kernel_rfl) rfl rfl ⟨(blk_cell BK315.out 0).trans rfl, (blk_cell BK315.out 1).trans rfl, (blk_cell BK310.out 0).trans rfl, (blk_cell BK310.out 1).trans rfl, (blk_cell BK310.out 2).trans rfl, ((HB.out.cell (World.block_lt_of_cell? w _ hw322_0)).trans hw322_0), ((HB.out.cell (World.block_lt_of_cell? w _ hw322_1)).trans hw322_1), ((HB.out.cell (World.block_lt_of_cell? w _ hw322_2)).trans hw322_2), ((HB.out.cell (World.block_lt_of_cell? w _ hw322_3)).trans hw322_3), ((HB.out.cell (World.block_lt_of_cell? w _ hw322_4)).trans hw322_4)⟩ (fun hHeld => ?_); refine with_tabW impl_PartOk.tab6 impl_PartOk.bits6 (fun HT_ HW_ => ?_)
     generalize w42.drew = w43 at BK310 BK315 HB hx322_0 hx322_1 hx322_2 hx322_3 hx322_4 hHeld ⊢
     refine pure_ (i := 0) (N := some 35) (v := ?_) (a' := ?_) zq7_1 rfl rfl (any_of HT_.out (by kernel_rfl)) (fun _ _ _ h => h) (Or.inl ⟨by rfl, ?_⟩) ?_ ?_
     rotate_left
     ·intro w'
      go_simp
      with_reducible rfl
     rotate_left
     ·exact zV7
     refine pure_ (i := 2) (N := some 37) (v := ?_) (a' := ?_) zq7_2 rfl rfl (any_of HT_.out (by kernel_rfl)) (fun _ _ _ h => h) (Or.inl ⟨by rfl, ?_⟩) ?_ ?_
     rotate_left
     ·intro w'
      go_simp
      with_reducible rfl
     rotate_left
     ·exact zV7
     refine take_ (i := 1) (N := some 36) (v := ?_) (a' := ?_) zq7_3 rfl rfl (take_ofW HT_.out HW_.out (by kernel_rfl)) (fun _ _ _ h => h) (Or.inl ⟨by rfl, ?_⟩) hHeld ?_ ?_
     rotate_left
     ·rintro w' ⟨s0, s1, s2, s3, s4, s5, s6, s7, s8, s9⟩
      go_simp
      with_reducible rfl
     rotate_left
     ·exact zV7
     refine take_ (i := 3) (N := some 38) (v := ?_) (a' := ?_) zq7_4 rfl rfl (take_ofW HT_.out HW_.out (by kernel_rfl)) (fun _ _ _ h => h) (Or.inl ⟨by rfl, ?_⟩) hHeld ?_ ?_
     rotate_left
     ·rintro w' ⟨s0, s1, s2, s3, s4, s5, s6, s7, s8, s9⟩
      go_simp
      with_reducible rfl
     rotate_left
     ·exact zV7
     refine pure_ (i := 4) (N := some 39) (v := ?_) (a' := ?_) zq7_5 rfl rfl (any_of HT_.out (by kernel_rfl)) (fun _ _ _ h => h) (Or.inl ⟨by rfl, ?_⟩) ?_ ?_
     rotate_left
     ·intro w'
      go_simp
      with_reducible rfl
     rotate_left
     ·exact zV7
     refine pure_ (i := 5) (N := some 40) (v := ?_) (a' := ?_) zq7_6 rfl rfl (any_of HT_.out (by kernel_rfl)) (fun _ _ _ h => h) (Or.inl ⟨by rfl, ?_⟩) ?_ ?_
     rotate_left
     ·intro w'
      go_simp
      with_reducible rfl
     rotate_left
     ·exact zV7
     refine one_ (i := 6) (N := some 41) zq7_7 rfl rfl (one_of HT_.out (by kernel_rfl)) (by decide) (fun K hK => ?_)
     refine goes_ Try.func107 (by kernel_rfl) rfl #[.int .i64 ((rd_T56 l0_2 x30_2).f0), .int .i64 0, .int .i64 (wrap64 ((l0_1.length : Int) - 1))] (by rfl) rfl rfl zT7 ?_
     with_reducible refine (impl_from.calls ((rd_T56 l0_2 x30_2).f0) 0 (wrap64 ((l0_1.length : Int) - 1)) true _ A20.out).mono ?_
     rintro e w' ⟨rfl, ⟨nd, rfl⟩⟩
     refine ⟨_, rfl, ?_⟩
     have q44 : (x30_2 : Int) ≤ ((l0_2.length : Int) : Int) := zA7
     obtain ⟨i044, hi044, _, hsz44, _⟩ := info_parts info56
     have hroom44 : l0_2.length ≤ c0_2 := HC0_2.out
     have hC44 : Kd.C k56 _ (some ad314) l0_2.length l0_2 := HR0_2.out
     have hcut44 := cut_to (P := Try.prog) 43 56 .i64 Try.underlying43 hi044 (some ad314) l0_2.length c0_2 x30_2 (zA7) q44 hroom44
     have hr44 := Kd.C_take (m := (x30_2 : Int).toNat) hC44 (by omega)
     have hy44 : y317.length = (x30_2 : Int).toNat := (by rw [Ny317.out, List.length_take]; omega)
     rw [← Ny317.out] at hr44
     rw [← hy44] at hcut44
     have HR320 := Aside0.mk hr44
     have HC320 := Aside0.mk (show y317.length ≤ c0_2 from by omega)
     clear hr44 hC44 hroom44 hi044 hsz44
     have KY44 := Aside0.mk hy44
     clear hy44
     replace q44 := eq_true q44
     refine hK.out _ _ ⟨(blk_cell BK315.out 0).trans rfl, (blk_cell BK315.out 1).trans rfl, (blk_cell BK310.out 0).trans rfl, (blk_cell BK310.out 1).trans rfl, (blk_cell BK310.out 2).trans rfl, ((HB.out.cell (World.block_lt_of_cell? w _ hw322_0)).trans hw322_0), ((HB.out.cell (World.block_lt_of_cell? w _ hw322_1)).trans hw322_1), ((HB.out.cell (World.block_lt_of_cell? w _ hw322_2)).trans hw322_2), ((HB.out.cell (World.block_lt_of_cell? w _ hw322_3)).trans hw322_3), ((HB.out.cell (World.block_lt_of_cell? w _ hw322_4)).trans hw322_4)⟩ (fun hHeld => ?_)
     clear hK K
     refine norm_ (a' := ?_) ?_ ?_
     rotate_left
     ·show Act.put _ (some 41) _ = _
      simp only [Act.put, List.setIfInBounds_toArray, List.set_cons_zero, List.set_cons_succ, i64_w, i32_w]
      rfl
     refine pure_ (i := 7) (N := some 42) (v := ?_) (a' := ?_) zq7_8 rfl rfl (any_of HT_.out (by kernel_rfl)) (fun _ _ _ h => h) (Or.inl ⟨by rfl, ?_⟩) ?_ ?_
     rotate_left
     ·intro w'
      go_simp
      with_reducible rfl
     rotate_left
     ·exact zV7
     refine pure_ (i := 8) (N := some 43) (v := ?_) (a' := ?_) zq7_9 rfl rfl (any_of HT_.out (by kernel_rfl)) (fun _ _ _ h => h) (Or.inl ⟨by rfl, ?_⟩) ?_ ?_
     rotate_left
     ·intro w'
      go_simp
      with_reducible rfl
     rotate_left
     ·exact zV7
     refine pure_ (i := 9) (N := some 44) (v := ?_) (a' := ?_) zq7_10 rfl rfl (any_of HT_.out (by kernel_rfl)) (fun _ _ _ h => h) (Or.inl ⟨by rfl, ?_⟩) ?_ ?_
     rotate_left
     ·intro w'
      go_simp
      with_reducible rfl
     rotate_left
     ·exact zV7
     refine pure_ (i := 11) (N := some 46) (v := ?_) (a' := ?_) zq7_11 rfl rfl (any_of HT_.out (by kernel_rfl)) (fun _ _ _ h => h) (Or.inl ⟨by rfl, ?_⟩) ?_ ?_
     rotate_left
     ·intro w'
      go_simp
      with_reducible rfl
     rotate_left
     ·exact zV7
     refine pure_ (i := 13) (N := some 48) (v := ?_) (a' := ?_) zq7_12 rfl rfl (any_of HT_.out (by kernel_rfl)) (fun _ _ _ h => h) (Or.inl ⟨by rfl, ?_⟩) ?_ ?_
     rotate_left
     ·intro w'
      go_simp
      with_reducible rfl
     rotate_left
     ·exact zV7
     refine take_ (i := 10) (N := some 45) (v := ?_) (a' := ?_) zq7_13 rfl rfl (take_ofW HT_.out HW_.out (by kernel_rfl)) (fun _ _ _ h => h) (Or.inl ⟨by rfl, ?_⟩) hHeld ?_ ?_
     rotate_left
     ·rintro w' ⟨s0, s1, s2, s3, s4, s5, s6, s7, s8, s9⟩
      go_simp
      with_reducible rfl
     rotate_left
     ·exact zV7
     refine pure_ (i := 12) (N := some 47) (v := ?_) (a' := ?_) zq7_14 rfl rfl (any_of HT_.out (by kernel_rfl)) (fun _ _ _ h => h) (Or.inl ⟨by rfl, ?_⟩) ?_ ?_
     rotate_left
     ·intro w'
      go_simp
      with_reducible rfl
     rotate_left
     ·exact zV7
     refine take_ (i := 14) (N := some 49) (v := ?_) (a' := ?_) zq7_15 rfl rfl (take_ofW HT_.out HW_.out (by kernel_rfl)) (fun _ _ _ h => h) (Or.inl ⟨by rfl, ?_⟩) hHeld ?_ ?_
     rotate_left
     ·rintro w' ⟨s0, s1, s2, s3, s4, s5, s6, s7, s8, s9⟩
      go_simp
      with_reducible rfl
     rotate_left
     ·exact zV7
     refine one_ (i := 15) (N := some 50) zq7_16 rfl rfl (one_of HT_.out (by kernel_rfl)) (by decide) (fun K hK => ?_)
     refine goes_ Try.func111 (by kernel_rfl) rfl #[.slice (some ad314) y317.length c0_2, .int .i64 ((rd_T56 l0_2 x30_2).f0)] (by rfl) rfl rfl zT7 ?_
     with_reducible refine (impl_isRef.calls _ _ y317 ((rd_T56 l0_2 x30_2).f0) false _ ?side1 ?side2 A24.out).mono ?_
     (case side1 => repeat (first | exact (Kd.C_below HR320.out (zB7_2)) | (with_reducible refine Kd.C_alloc ?_ _) | (with_reducible refine Kd.C_drewN ?_ _) | (with_reducible refine Kd.C_drew ?_)))
     (case side2 => exact HC320.out)
     rintro e w45 ⟨rfl, hb⟩
     refine ⟨_, rfl, ?_⟩
     have n0_ := Aside0.mk (zb7 BK310.out hb)
     have n1_ := Aside0.mk (zb7 BK315.out hb)
     have n2_ := Aside0.mk (below_step (zB7_2) hb)
     clear BK310 BK315 HB
     have BK310 := n0_
     have BK315 := n1_
     have HB := n2_
     clear n0_ n1_ n2_
     (try clear hb)
     (try clear hb2)
     (try clear hk)
     (try clear hi)
     refine hK.out _ _ ⟨(blk_cell BK315.out 0).trans rfl, (blk_cell BK315.out 1).trans rfl, (blk_cell BK310.out 0).trans rfl, (blk_cell BK310.out 1).trans rfl, (blk_cell BK310.out 2).trans rfl, ((HB.out.cell (World.block_lt_of_cell? w _ hw322_0)).trans hw322_0), ((HB.out.cell (World.block_lt_of_cell? w _ hw322_1)).trans hw322_1), ((HB.out.cell (World.block_lt_of_cell? w _ hw322_2)).trans hw322_2), ((HB.out.cell (World.block_lt_of_cell? w _ hw322_3)).trans hw322_3), ((HB.out.cell (World.block_lt_of_cell? w _ hw322_4)).trans hw322_4)⟩ (fun hHeld => ?_)
     clear hK K
     refine norm_ (a' := ?_) ?_ ?_
     rotate_left
     ·show Act.put _ (some 50) _ = _
      simp only [Act.put, List.setIfInBounds_toArray, List.set_cons_zero, List.set_cons_succ, i64_w, i32_w]
      rfl
     refine pure_ (i := 16) (N := some 51) (v := ?_) (a' := ?_) zq7_17 rfl rfl (any_of HT_.out (by kernel_rfl)) (fun _ _ _ h => h) (Or.inl ⟨by rfl, ?_⟩) ?_ ?_
     rotate_left
     ·intro w'
      go_simp
      with_reducible rfl
     rotate_left
     ·exact zV7
     refine pure_ (i := 17) (N := some 52) (v := ?_) (a' := ?_) zq7_18 rfl rfl (any_of HT_.out (by kernel_rfl)) (fun _ _ _ h => h) (Or.inl ⟨by rfl, ?_⟩) ?_ ?_
     rotate_left
     ·intro w'
      go_simp
      with_reducible rfl
     rotate_left
     ·exact zV7
     refine pure_ (i := 18) (N := some 53) (v := ?_) (a' := ?_) zq7_19 rfl rfl (any_of HT_.out (by kernel_rfl)) (fun _ _ _ h => h) (Or.inl ⟨by rfl, ?_⟩) ?_ ?_
     rotate_left
     ·intro w'
      go_simp
      with_reducible rfl
     rotate_left
     ·exact zV7
     refine pure_ (i := 20) (N := some 55) (v := ?_) (a' := ?_) zq7_34 rfl rfl (any_of HT_.out (by kernel_rfl)) (fun _ _ _ h => h) (Or.inl ⟨by rfl, ?_⟩) ?_ ?_
     rotate_left
     ·intro w'
      go_simp
      with_reducible rfl
     rotate_left
     ·exact zV7
     refine take_ (i := 19) (N := some 54) (v := ?_) (a' := ?_) zq7_21 rfl rfl (take_ofW HT_.out HW_.out (by kernel_rfl)) (fun _ _ _ h => h) (Or.inl ⟨by rfl, ?_⟩) hHeld ?_ ?_
     rotate_left
     ·rintro w' ⟨s0, s1, s2, s3, s4, s5, s6, s7, s8, s9⟩
      go_simp
      with_reducible rfl
     rotate_left
     ·exact zV7
     refine take_ (i := 21) (N := some 56) (v := ?_) (a' := ?_) zq7_22 rfl rfl (take_ofW HT_.out HW_.out (by kernel_rfl)) (fun _ _ _ h => h) (Or.inl ⟨by rfl, ?_⟩) hHeld ?_ ?_
     rotate_left
     ·rintro w' ⟨s0, s1, s2, s3, s4, s5, s6, s7, s8, s9⟩
      go_simp
      with_reducible rfl
     rotate_left
     ·exact zV7
     refine pure_ (i := 22) (N := some 57) (v := ?_) (a' := ?_) zq7_23 rfl rfl (any_of HT_.out (by kernel_rfl)) (fun _ _ _ h => h) (Or.inl ⟨by rfl, ?_⟩) ?_ ?_
     rotate_left
     ·intro w'
      go_simp
      with_reducible rfl
     rotate_left
     ·exact zV7
     refine take_ (i := 23) (N := some 58) (v := ?_) (a' := ?_) zq7_24 rfl rfl (take_ofW HT_.out HW_.out (by kernel_rfl)) (fun _ _ _ h => h) (Or.inl ⟨by rfl, ?_⟩) hHeld ?_ ?_
     rotate_left
     ·rintro w' ⟨s0, s1, s2, s3, s4, s5, s6, s7, s8, s9⟩
      go_simp
      with_reducible rfl
     rotate_left
     ·exact zV7
     refine one_ (i := 24) (N := some 59) zq7_25 rfl rfl (one_of HT_.out (by kernel_rfl)) (by decide) (fun K hK => ?_)
     refine goes_ Try.func112 (by kernel_rfl) rfl #[.agg #[.int .i64 ((rd_T52 l0_1 ((rd_T56 l0_2 x30_2).f0)).f0), .int .i64 ((rd_T52 l0_1 ((rd_T56 l0_2 x30_2).f0)).f1), .int .i64 ((rd_T52 l0_1 ((rd_T56 l0_2 x30_2).f0)).f2), .int .i64 ((rd_T52 l0_1 ((rd_T56 l0_2 x30_2).f0)).f3), .int .i64 ((rd_T52 l0_1 ((rd_T56 l0_2 x30_2).f0)).f4)]] (by rfl) rfl rfl zT7 ?_
     with_reducible refine (impl_goesTo.calls ((rd_T52 l0_1 ((rd_T56 l0_2 x30_2).f0)).f0) ((rd_T52 l0_1 ((rd_T56 l0_2 x30_2).f0)).f1) ((rd_T52 l0_1 ((rd_T56 l0_2 x30_2).f0)).f2) ((rd_T52 l0_1 ((rd_T56 l0_2 x30_2).f0)).f3) ((rd_T52 l0_1 ((rd_T56 l0_2 x30_2).f0)).f4) true _ A35.out).mono ?_
     rintro e w46 ⟨rfl, hb⟩
     refine ⟨_, rfl, ?_⟩
     have n0_ := Aside0.mk (zb7 BK310.out hb)
     have n1_ := Aside0.mk (zb7 BK315.out hb)
     have n2_ := Aside0.mk (below_step (zB7_2) hb)
     clear BK310 BK315 HB
     have BK310 := n0_
     have BK315 := n1_
     have HB := n2_
     clear n0_ n1_ n2_
     (try clear hb)
     (try clear hb2)
     (try clear hk)
     (try clear hi)
     refine hK.out _ _ ⟨(blk_cell BK315.out 0).trans rfl, (blk_cell BK315.out 1).trans rfl, (blk_cell BK310.out 0).trans rfl, (blk_cell BK310.out 1).trans rfl, (blk_cell BK310.out 2).trans rfl, ((HB.out.cell (World.block_lt_of_cell? w _ hw322_0)).trans hw322_0), ((HB.out.cell (World.block_lt_of_cell? w _ hw322_1)).trans hw322_1), ((HB.out.cell (World.block_lt_of_cell? w _ hw322_2)).trans hw322_2), ((HB.out.cell (World.block_lt_of_cell? w _ hw322_3)).trans hw322_3), ((HB.out.cell (World.block_lt_of_cell? w _ hw322_4)).trans hw322_4)⟩ (fun hHeld => ?_)
     clear hK K
     refine norm_ (a' := ?_) ?_ ?_
     rotate_left
     ·show Act.put _ (some 59) _ = _
      simp only [Act.put, List.setIfInBounds_toArray, List.set_cons_zero, List.set_cons_succ, i64_w, i32_w]
      rfl
     refine pure_ (i := 25) (N := some 60) (v := ?_) (a' := ?_) zq7_26 rfl rfl (any_of HT_.out (by kernel_rfl)) (fun _ _ _ h => h) (Or.inl ⟨by rfl, ?_⟩) ?_ ?_
     rotate_left
     ·intro w'
      go_simp
      with_reducible rfl
     rotate_left
     ·exact zV7
     refine pure_ (i := 26) (N := some 61) (v := ?_) (a' := ?_) zq7_27 rfl rfl (any_of HT_.out (by kernel_rfl)) (fun _ _ _ h => h) (Or.inl ⟨by rfl, ?_⟩) ?_ ?_
     rotate_left
     ·intro w'
      go_simp
      with_reducible rfl
     rotate_left
     ·exact zV7
     refine pure_ (i := 27) (N := some 62) (v := ?_) (a' := ?_) zq7_28 rfl rfl (any_of HT_.out (by kernel_rfl)) (fun _ _ _ h => h) (Or.inl ⟨by rfl, ?_⟩) ?_ ?_
     rotate_left
     ·intro w'
      go_simp
      with_reducible rfl
     rotate_left
     ·exact zV7
     refine pure_ (i := 28) (N := some 63) (v := ?_) (a' := ?_) zq7_29 rfl rfl (any_of HT_.out (by kernel_rfl)) (fun _ _ _ h => h) (Or.inl ⟨by rfl, ?_⟩) ?_ ?_
     rotate_left
     ·intro w'
      go_simp
      with_reducible rfl
     rotate_left
     ·exact zV7
     refine take_ (i := 29) (N := some 64) (v := ?_) (a' := ?_) zq7_30 rfl rfl (take_ofW HT_.out HW_.out (by kernel_rfl)) (fun _ _ _ h => h) (Or.inl ⟨by rfl, ?_⟩) hHeld ?_ ?_
     rotate_left
     ·rintro w' ⟨s0, s1, s2, s3, s4, s5, s6, s7, s8, s9⟩
      go_simp
      with_reducible rfl
     rotate_left
     ·exact zV7
     refine one_ (i := 30) (N := some 65) zq7_31 rfl rfl (one_of HT_.out (by kernel_rfl)) (by decide) (fun K hK => ?_)
     refine goes_ Try.func106 (by kernel_rfl) rfl #[.string ((rd_T56 l0_2 x30_2).f1)] (by rfl) rfl rfl zT7 ?_
     with_reducible refine (impl_nameOk.calls k2 ((rd_T56 l0_2 x30_2).f1) true _ A37.out).mono ?_
     rintro e w' ⟨rfl, ⟨nd, rfl⟩⟩
     refine ⟨_, rfl, ?_⟩
     refine hK.out _ _ ⟨(blk_cell BK315.out 0).trans rfl, (blk_cell BK315.out 1).trans rfl, (blk_cell BK310.out 0).trans rfl, (blk_cell BK310.out 1).trans rfl, (blk_cell BK310.out 2).trans rfl, ((HB.out.cell (World.block_lt_of_cell? w _ hw322_0)).trans hw322_0), ((HB.out.cell (World.block_lt_of_cell? w _ hw322_1)).trans hw322_1), ((HB.out.cell (World.block_lt_of_cell? w _ hw322_2)).trans hw322_2), ((HB.out.cell (World.block_lt_of_cell? w _ hw322_3)).trans hw322_3), ((HB.out.cell (World.block_lt_of_cell? w _ hw322_4)).trans hw322_4)⟩ (fun hHeld => ?_)
     clear hK K
     refine norm_ (a' := ?_) ?_ ?_
     rotate_left
     ·show Act.put _ (some 65) _ = _
      simp only [Act.put, List.setIfInBounds_toArray, List.set_cons_zero, List.set_cons_succ, i64_w, i32_w]
      rfl
     refine pure_ (i := 31) (N := some 66) (v := ?_) (a' := ?_) zq7_32 rfl rfl (any_of HT_.out (by kernel_rfl)) (fun _ _ _ h => h) (Or.inl ⟨by rfl, ?_⟩) ?_ ?_
     rotate_left
     ·intro w'
      go_simp
      with_reducible rfl
     rotate_left
     ·exact zV7
     refine pure_ (i := 32) (N := some 67) (v := ?_) (a' := ?_) zq7_33 rfl rfl (any_of HT_.out (by kernel_rfl)) (fun _ _ _ h => h) (Or.inl ⟨by rfl, ?_⟩) ?_ ?_
     rotate_left
     ·intro w'
      go_simp
      with_reducible rfl
     rotate_left
     ·exact zV7
     refine done_ (done_of HT_.out (by kernel_rfl)) ?_
     try go_wp2
     go_roundg k2
     case measure => have := HJ1.out; have := HK2.out; omega
     case rel => exact ⟨(wrap64 (x30_2 + 1)), (by first | rfl | (simp; done) | (simp [*]; done)), H', ⟨by have := HJ1.out; have := HK2.out; omega⟩, ⟨zK7 BK310.out⟩, ⟨zB7_2⟩⟩

end Go.Proofs.Ytnekcbajadnldaa.PFnLayouts
