-- made by wip/tools/myprint.py out of the seat's translation
import Derived.Test.YtnekcbajadnldaaPFnMovedx0
import Derived.Test.YtnekcbajadnldaaPFnMovedx1
import Derived.Test.YtnekcbajadnldaaPFnMovedx3
import Derived.Test.YtnekcbajadnldaaPFnMovedx6
import Derived.Test.YtnekcbajadnldaaPFnMovedx10
import Derived.Test.YtnekcbajadnldaaPFnMovedx14
import Derived.Test.YtnekcbajadnldaaPFnMovedx15
namespace Go.Proofs.Ytnekcbajadnldaa.PFnMoved
open Go.RowKit Go.Proofs.YtnekcbajadnldaaW.PrintWords Go.Proofs.YtnekcbajadnldaaW.PrintLast Go.Proofs.YtnekcbajadnldaaW.PrintMore
attribute [local go_sem] max2_int min2_int max_two min_two max_three min_three max_four min_four   -- for this text's walks alone
set_option linter.unusedVariables false
set_option linter.unusedSimpArgs false
theorem zc16_3 {w : World} {g : Nat} {a0 a1 a2 : Value} {t : TypeId} (h : w.heap[g]? = some (.cells #[a0, a1, a2] t (0, 0))) : w.cell? ⟨g, 0, none⟩ = some a0 ∧ w.cell? ⟨g, 1, none⟩ = some a1 ∧ w.cell? ⟨g, 2, none⟩ = some a2 ∧ w.frozen? ⟨g, 0, none⟩ = false ∧ w.frozen? ⟨g, 1, none⟩ = false ∧ w.frozen? ⟨g, 2, none⟩ = false := ⟨(blk_cell h 0).trans rfl, (blk_cell h 1).trans rfl, (blk_cell h 2).trans rfl, blk_frozen h 0, blk_frozen h 1, blk_frozen h 2⟩
theorem zc16_5 {w : World} {g : Nat} {a0 a1 a2 a3 a4 : Value} {t : TypeId} (h : w.heap[g]? = some (.cells #[a0, a1, a2, a3, a4] t (0, 0))) : w.cell? ⟨g, 0, none⟩ = some a0 ∧ w.cell? ⟨g, 1, none⟩ = some a1 ∧ w.cell? ⟨g, 2, none⟩ = some a2 ∧ w.cell? ⟨g, 3, none⟩ = some a3 ∧ w.cell? ⟨g, 4, none⟩ = some a4 ∧ w.frozen? ⟨g, 0, none⟩ = false ∧ w.frozen? ⟨g, 1, none⟩ = false ∧ w.frozen? ⟨g, 2, none⟩ = false ∧ w.frozen? ⟨g, 3, none⟩ = false ∧ w.frozen? ⟨g, 4, none⟩ = false := ⟨(blk_cell h 0).trans rfl, (blk_cell h 1).trans rfl, (blk_cell h 2).trans rfl, (blk_cell h 3).trans rfl, (blk_cell h 4).trans rfl, blk_frozen h 0, blk_frozen h 1, blk_frozen h 2, blk_frozen h 3, blk_frozen h 4⟩
abbrev zq16_0 : Array Bool := #[true, true, true, true, true, true, true, true, true, true, true, true, false, false]
theorem zR16 {p q : Prop} (x : q) (h : q → p := by intro h; (with_reducible repeat (first | apply Kd.R_alloc | apply Kd.R_drewN | apply Kd.R_drew)); exact h) : p := h x
theorem zK16 {p q : Prop} (x : q) (h : q → p := by intro h; (with_reducible repeat (first | refine blk_drewN ?_ _ | refine blk_drew ?_ | refine blk_alloc ?_ _)); exact h) : p := h x
theorem zA16 {p : Prop} [Decidable p] (h : decide p = true := by first | (with_reducible assumption) | assumption) : p := of_decide_eq_true h
theorem zT16 {p : Prop} (h : p := by (try simp only [List.map_toArray, List.map_cons, List.map_nil]); first | done | rfl | (simp only [List.length_drop, List.length_take]; rfl)) : p := h
theorem zC16 {p q : Prop} (x : q) (h : q → p := by intro h; repeat (first | exact h | (with_reducible refine Kd.C_alloc ?_ _) | (with_reducible refine Kd.C_drewN ?_ _) | (with_reducible refine Kd.C_drew ?_))) : p := h x
theorem zb16 {W w w1 : World} {g : Nat} {o : Obj} (x : W.heap[g]? = some o) (hb : Below w.heap.size w w1) (h : W.heap[g]? = some o → w.heap[g]? = some o := by intro h; (with_reducible repeat (first | refine blk_drewN ?_ _ | refine blk_drew ?_ | refine blk_alloc ?_ _)); exact h) : w1.heap[g]? = some o := blk_below (h x) hb
theorem zn16 {W w : World} {g g' : Nat} {o : Obj} (x : W.heap[g]? = some o) (hg : g' = w.heap.size) (h : W.heap[g]? = some o → w.heap[g]? = some o := by intro h; (with_reducible repeat (first | refine blk_drewN ?_ _ | refine blk_drew ?_ | refine blk_alloc ?_ _)); exact h) : g ≠ g' := by rw [hg]; exact Nat.ne_of_lt (blk_lt (h x))
theorem zm16 {W w : World} {g g' : Nat} {o : Obj} (x : W.heap[g]? = some o) (hg : g' = w.heap.size) (h : W.heap[g]? = some o → w.heap[g]? = some o := by intro h; (with_reducible repeat (first | refine blk_drewN ?_ _ | refine blk_drew ?_ | refine blk_alloc ?_ _)); exact h) : g' ≠ g := by rw [hg]; exact Nat.ne_of_gt (blk_lt (h x))
theorem zP16 {p q : Prop} (x : q) (h : q → p := by intro h; (with_reducible repeat (first | refine blk_drewN ?_ _ | refine blk_drew ?_ | refine blk_alloc ?_ _)); exact h) : p := h x
theorem zV16 {a b : Act} (h : a = b := by simp only [Act.put, List.setIfInBounds_toArray, List.set_cons_zero, List.set_cons_succ, i64_w, i32_w]; rfl) : a = b := h
theorem zE16 {p : Prop} (h : p := by first | rfl | (simp [errW_none, errW_some] <;> rfl) | (simp [*, errW_none, errW_some] <;> rfl)) : p := h
theorem zB16_0 {p : Prop} (h : p := by repeat (first | (with_reducible first | exact HB.out | apply below_alloc | apply pw_below_drewN | apply below_drew1) | exact HB.out)) : p := h
theorem zB16_1 {p : Prop} (h : p := by repeat (first | (with_reducible first | exact HB.out | apply below_alloc | apply pw_below_drewN | apply below_drew1 | refine below_set ?_ GE396.out) | exact HB.out)) : p := h
theorem zB16_2 {p : Prop} (h : p := by repeat (first | (with_reducible first | exact HB.out | apply below_alloc | apply pw_below_drewN | apply below_drew1 | refine below_set ?_ GE396.out | refine below_set ?_ GE405.out) | exact HB.out)) : p := h
theorem zB16_3 {p : Prop} (h : p := by repeat (first | (with_reducible first | exact HB.out | apply below_alloc | apply pw_below_drewN | apply below_drew1 | refine below_set ?_ GE396.out | refine below_set ?_ GE405.out | refine below_set ?_ GE414.out) | exact HB.out)) : p := h
theorem zB16_4 {p : Prop} (h : p := by repeat (first | (with_reducible first | exact HB.out | apply below_alloc | apply pw_below_drewN | apply below_drew1 | refine below_set ?_ GE396.out | refine below_set ?_ GE405.out | refine below_set ?_ GE414.out | refine below_set ?_ GE424.out) | exact HB.out)) : p := h
theorem zB16_5 {p : Prop} (h : p := by repeat (first | (with_reducible first | exact HB.out | apply below_alloc | apply pw_below_drewN | apply below_drew1 | refine below_set ?_ GE396.out | refine below_set ?_ GE405.out | refine below_set ?_ GE414.out | refine below_set ?_ GE424.out | refine below_set ?_ GE427.out) | exact HB.out)) : p := h
theorem zB16_6 {p : Prop} (h : p := by repeat (first | (with_reducible first | exact HB.out | apply below_alloc | apply pw_below_drewN | apply below_drew1 | refine below_set ?_ GE396.out | refine below_set ?_ GE405.out | refine below_set ?_ GE414.out | refine below_set ?_ GE424.out | refine below_set ?_ GE427.out | refine below_set ?_ GE428.out) | exact HB.out)) : p := h
theorem zB16_7 {p : Prop} (h : p := by repeat (first | (with_reducible first | exact HB.out | apply below_alloc | apply pw_below_drewN | apply below_drew1 | refine below_set ?_ GE396.out | refine below_set ?_ GE405.out | refine below_set ?_ GE414.out | refine below_set ?_ GE424.out | refine below_set ?_ GE428.out) | exact HB.out)) : p := h
theorem zB16_8 {p : Prop} (h : p := by repeat (first | (with_reducible first | exact HB.out | apply below_alloc | apply pw_below_drewN | apply below_drew1 | refine below_set ?_ GE396.out | refine below_set ?_ GE405.out | refine below_set ?_ GE414.out | refine below_set ?_ GE424.out | refine below_set ?_ GE428.out | refine below_set ?_ GE427.out) | exact HB.out)) : p := h

attribute [local go_sem high] eqA52
/-! ### laws_FnMoved: function 11 -/
mutual
def laws_FnMoved.j0 : Nat → Int → Bool → Bool → ByteArray → List (S52) → List (S56) → ByteArray → List (S52) → List (S56) → Option (Bool)
 | 0, _, _, _, _, _, _, _, _, _ => none
 | k + 1, x4, x6, x41, x397000, x397001, x397002, x406000, x406001, x406002 => if x41 = true then (some false) else (if x6 = true then ((impl_Moved.f k x406000 x406001 x406002 (wrap64 (-x4))).bind fun bt416 => (laws_FnMoved.l0 k bt416.2.2.2 0 x397000 x397001 x397002 x406000 x406001 x406002 bt416.1 bt416.2.1 bt416.2.2.1)) else (some (x406000.toList == ([] : List UInt8))))
def laws_FnMoved.l0 : Nat → Bool → Int → ByteArray → List (S52) → List (S56) → ByteArray → List (S52) → List (S56) → ByteArray → List (S52) → List (S56) → Option (Bool)
 | 0, _, _, _, _, _, _, _, _, _, _, _ => none
 | k + 1, x10, x11, x397000, x397001, x397002, x406000, x406001, x406002, x425000, x425001, x425002 => if x11 < (x397001.length : Int) then (if 0 ≤ x11 then (if x11 < (x406001.length : Int) then (if ((rd_T52 x397001 x11).f0) = 8 then (laws_FnMoved.j2 k x10 x11 false x397000 x397001 x397002 x406000 x406001 x406002 x425000 x425001 x425002) else (if ((rd_T52 x397001 x11).f0) = 7 then (laws_FnMoved.j2 k x10 x11 false x397000 x397001 x397002 x406000 x406001 x406002 x425000 x425001 x425002) else (laws_FnMoved.j2 k x10 x11 (!(((rd_T52 x397001 x11).f0) == ((rd_T52 x406001 x11).f0)) || (!(((rd_T52 x397001 x11).f1) == ((rd_T52 x406001 x11).f1)) || (!(((rd_T52 x397001 x11).f2) == ((rd_T52 x406001 x11).f2)) || (!(((rd_T52 x397001 x11).f3) == ((rd_T52 x406001 x11).f3)) || (!(((rd_T52 x397001 x11).f4) == ((rd_T52 x406001 x11).f4))))))) x397000 x397001 x397002 x406000 x406001 x406002 x425000 x425001 x425002))) else (none)) else (none)) else (if x10 = true then ((laws_samePart.f k x425000 x425001 x425002 x397000 x397001 x397002).bind fun t429 => (if t429 = true then (some ((x406001.length : Int) == (x397001.length : Int))) else (some false))) else (some false))
def laws_FnMoved.j2 : Nat → Bool → Int → Bool → ByteArray → List (S52) → List (S56) → ByteArray → List (S52) → List (S56) → ByteArray → List (S52) → List (S56) → Option (Bool)
 | 0, _, _, _, _, _, _, _, _, _, _, _, _ => none
 | k + 1, x10, x11, x83, x397000, x397001, x397002, x406000, x406001, x406002, x425000, x425001, x425002 => if x83 = true then (some false) else (laws_FnMoved.l0 k x10 (wrap64 (x11 + 1)) x397000 x397001 x397002 x406000 x406001 x406002 x425000 x425001 x425002)
end
def laws_FnMoved.f (k : Nat) (l0 : List Int) : Option (Bool) := (laws_big.f l0).bind fun t387 => (if t387 = true then (some true) else ((spec_DrawMoved.f k l0).bind fun bt388 => ((impl_Moved.f k bt388.1 bt388.2.1 bt388.2.2.1 bt388.2.2.2).bind fun bt397 => ((spec_Moved.f k bt388.1 bt388.2.1 bt388.2.2.1 bt388.2.2.2).bind fun bt406 => (if (bt397.2.2.2 != bt406.2.2.2) = true then (laws_FnMoved.j0 k bt388.2.2.2 bt397.2.2.2 true bt388.1 bt388.2.1 bt388.2.2.1 bt397.1 bt397.2.1 bt397.2.2.1) else ((laws_samePart.f k bt397.1 bt397.2.1 bt397.2.2.1 bt406.1 bt406.2.1 bt406.2.2.1).bind fun t415 => (laws_FnMoved.j0 k bt388.2.2.2 bt397.2.2.2 (!t415) bt388.1 bt388.2.1 bt388.2.2.1 bt397.1 bt397.2.1 bt397.2.2.1)))))))
theorem laws_FnMoved.mono_l : ∀ k, (∀ y0 y1 y2 y3 y4 y5 y6 y7 y8, LeO (laws_FnMoved.j0 k y0 y1 y2 y3 y4 y5 y6 y7 y8) (laws_FnMoved.j0 (k + 1) y0 y1 y2 y3 y4 y5 y6 y7 y8)) ∧ (∀ y0 y1 y2 y3 y4 y5 y6 y7 y8 y9 y10, LeO (laws_FnMoved.l0 k y0 y1 y2 y3 y4 y5 y6 y7 y8 y9 y10) (laws_FnMoved.l0 (k + 1) y0 y1 y2 y3 y4 y5 y6 y7 y8 y9 y10)) ∧ (∀ y0 y1 y2 y3 y4 y5 y6 y7 y8 y9 y10 y11, LeO (laws_FnMoved.j2 k y0 y1 y2 y3 y4 y5 y6 y7 y8 y9 y10 y11) (laws_FnMoved.j2 (k + 1) y0 y1 y2 y3 y4 y5 y6 y7 y8 y9 y10 y11))
 | 0 => ⟨fun _ _ _ _ _ _ _ _ _ r h => by simp [laws_FnMoved.j0] at h, fun _ _ _ _ _ _ _ _ _ _ _ r h => by simp [laws_FnMoved.l0] at h, fun _ _ _ _ _ _ _ _ _ _ _ _ r h => by simp [laws_FnMoved.j2] at h⟩
 | k + 1 => by
  obtain ⟨ih0, ih1, ih2⟩ := laws_FnMoved.mono_l k
  refine ⟨?_, ?_, ?_⟩
  ·intro y0 y1 y2 y3 y4 y5 y6 y7 y8
   unfold laws_FnMoved.j0
   repeat' first
   | (with_reducible exact ih0 _ _ _ _ _ _ _ _ _)
   | (with_reducible exact ih1 _ _ _ _ _ _ _ _ _ _ _)
   | (with_reducible exact ih2 _ _ _ _ _ _ _ _ _ _ _ _)
   | (with_reducible exact impl_Moved.mono _ _ _ _ _)
   | (with_reducible exact laws_samePart.mono _ _ _ _ _ _ _)
   | (with_reducible exact spec_DrawMoved.mono _ _)
   | (with_reducible exact spec_Moved.mono _ _ _ _ _)
   | (with_reducible exact LeO.refl _)
   | (with_reducible exact LeO.none _)
   | (with_reducible refine LeO.ite ?_ ?_)
   | (with_reducible refine LeO.bind ?_ (fun _ => ?_))
   | exact ih0 _ _ _ _ _ _ _ _ _
   | exact ih1 _ _ _ _ _ _ _ _ _ _ _
   | exact ih2 _ _ _ _ _ _ _ _ _ _ _ _
   | exact impl_Moved.mono _ _ _ _ _
   | exact laws_samePart.mono _ _ _ _ _ _ _
   | exact spec_DrawMoved.mono _ _
   | exact spec_Moved.mono _ _ _ _ _
   | exact LeO.none _
   | refine LeO.ite ?_ ?_
   | refine LeO.bind ?_ (fun _ => ?_)
  ·intro y0 y1 y2 y3 y4 y5 y6 y7 y8 y9 y10
   unfold laws_FnMoved.l0
   repeat' first
   | (with_reducible exact ih0 _ _ _ _ _ _ _ _ _)
   | (with_reducible exact ih1 _ _ _ _ _ _ _ _ _ _ _)
   | (with_reducible exact ih2 _ _ _ _ _ _ _ _ _ _ _ _)
   | (with_reducible exact impl_Moved.mono _ _ _ _ _)
   | (with_reducible exact laws_samePart.mono _ _ _ _ _ _ _)
   | (with_reducible exact spec_DrawMoved.mono _ _)
   | (with_reducible exact spec_Moved.mono _ _ _ _ _)
   | (with_reducible exact LeO.refl _)
   | (with_reducible exact LeO.none _)
   | (with_reducible refine LeO.ite ?_ ?_)
   | (with_reducible refine LeO.bind ?_ (fun _ => ?_))
   | exact ih0 _ _ _ _ _ _ _ _ _
   | exact ih1 _ _ _ _ _ _ _ _ _ _ _
   | exact ih2 _ _ _ _ _ _ _ _ _ _ _ _
   | exact impl_Moved.mono _ _ _ _ _
   | exact laws_samePart.mono _ _ _ _ _ _ _
   | exact spec_DrawMoved.mono _ _
   | exact spec_Moved.mono _ _ _ _ _
   | exact LeO.none _
   | refine LeO.ite ?_ ?_
   | refine LeO.bind ?_ (fun _ => ?_)
  ·intro y0 y1 y2 y3 y4 y5 y6 y7 y8 y9 y10 y11
   unfold laws_FnMoved.j2
   repeat' first
   | (with_reducible exact ih0 _ _ _ _ _ _ _ _ _)
   | (with_reducible exact ih1 _ _ _ _ _ _ _ _ _ _ _)
   | (with_reducible exact ih2 _ _ _ _ _ _ _ _ _ _ _ _)
   | (with_reducible exact impl_Moved.mono _ _ _ _ _)
   | (with_reducible exact laws_samePart.mono _ _ _ _ _ _ _)
   | (with_reducible exact spec_DrawMoved.mono _ _)
   | (with_reducible exact spec_Moved.mono _ _ _ _ _)
   | (with_reducible exact LeO.refl _)
   | (with_reducible exact LeO.none _)
   | (with_reducible refine LeO.ite ?_ ?_)
   | (with_reducible refine LeO.bind ?_ (fun _ => ?_))
   | exact ih0 _ _ _ _ _ _ _ _ _
   | exact ih1 _ _ _ _ _ _ _ _ _ _ _
   | exact ih2 _ _ _ _ _ _ _ _ _ _ _ _
   | exact impl_Moved.mono _ _ _ _ _
   | exact laws_samePart.mono _ _ _ _ _ _ _
   | exact spec_DrawMoved.mono _ _
   | exact spec_Moved.mono _ _ _ _ _
   | exact LeO.none _
   | refine LeO.ite ?_ ?_
   | refine LeO.bind ?_ (fun _ => ?_)
theorem laws_FnMoved.mono : ∀ a0 k, LeO (laws_FnMoved.f k a0) (laws_FnMoved.f (k + 1) a0) := by
 intro a0 k
 obtain ⟨ih0, ih1, ih2⟩ := laws_FnMoved.mono_l k
 unfold laws_FnMoved.f
 repeat' first
   | (with_reducible exact ih0 _ _ _ _ _ _ _ _ _)
   | (with_reducible exact ih1 _ _ _ _ _ _ _ _ _ _ _)
   | (with_reducible exact ih2 _ _ _ _ _ _ _ _ _ _ _ _)
   | (with_reducible exact impl_Moved.mono _ _ _ _ _)
   | (with_reducible exact laws_samePart.mono _ _ _ _ _ _ _)
   | (with_reducible exact spec_DrawMoved.mono _ _)
   | (with_reducible exact spec_Moved.mono _ _ _ _ _)
   | (with_reducible exact LeO.refl _)
   | (with_reducible exact LeO.none _)
   | (with_reducible refine LeO.ite ?_ ?_)
   | (with_reducible refine LeO.bind ?_ (fun _ => ?_))
   | exact ih0 _ _ _ _ _ _ _ _ _
   | exact ih1 _ _ _ _ _ _ _ _ _ _ _
   | exact ih2 _ _ _ _ _ _ _ _ _ _ _ _
   | exact impl_Moved.mono _ _ _ _ _
   | exact laws_samePart.mono _ _ _ _ _ _ _
   | exact spec_DrawMoved.mono _ _
   | exact spec_Moved.mono _ _ _ _ _
   | exact LeO.none _
   | refine LeO.ite ?_ ?_
   | refine LeO.bind ?_ (fun _ => ?_)
def laws_FnMoved.T14 : Bool × List (List Nat × List Nat) := (true, [([], []), ([0], [0]), ([], []), ([1, 2], [1, 2]), ([3], [3]), ([], []), ([5], [5]), ([], []), ([6, 7], [6, 7]), ([8], [8]), ([], []), ([], []), ([10, 4, 0, 1, 2, 3, 4, 10, 11], [4, 10]), ([11, 9, 12, 0, 1, 2, 3, 4, 5, 6, 7, 8, 9, 10, 11, 12], [9, 11])])
def laws_FnMoved.B14 : List Nat := [0, 1, 0, 7, 15, 0, 32, 0, 224, 480, 0, 0, 3103, 8191]
theorem laws_FnMoved.tab14 : rtab .any (opsOf Try.f11 14) = laws_FnMoved.T14 := by kernel_rfl
theorem laws_FnMoved.bits14 : waitsOk laws_FnMoved.T14.2 laws_FnMoved.B14 = true := by kernel_rfl
set_option maxHeartbeats 8000000 in
set_option maxRecDepth 100000 in
theorem laws_FnMoved.calls (k : Nat) (A0 : Option Addr) (c0 : Nat) (l0 : List Int) (r : Bool) (w : World) (hr0 : Kd.C (Kd.int .u8) w A0 l0.length l0) (hc0 : l0.length ≤ c0) (h : laws_FnMoved.f k l0 = some r) :
  Calls Try.prog 11 #[.slice A0 l0.length c0] w fun e w' => e = .returned (.bool r) ∧ Below w.heap.size w w' := by
 have hu45 := Try.underlying45
 have hu52 := Try.underlying52
 have HR0 := Aside0.mk hr0
 have HC0 := Aside0.mk hc0
 clear hr0 hc0
 have HB := Aside0.mk (Below.refl w.heap.size w)
 have H : ((laws_big.f l0).bind fun t387 => (if t387 = true then (some true) else ((spec_DrawMoved.f k l0).bind fun bt388 => ((impl_Moved.f k bt388.1 bt388.2.1 bt388.2.2.1 bt388.2.2.2).bind fun bt397 => ((spec_Moved.f k bt388.1 bt388.2.1 bt388.2.2.1 bt388.2.2.2).bind fun bt406 => (if (bt397.2.2.2 != bt406.2.2.2) = true then (laws_FnMoved.j0 k bt388.2.2.2 bt397.2.2.2 true bt388.1 bt388.2.1 bt388.2.2.1 bt397.1 bt397.2.1 bt397.2.2.1) else ((laws_samePart.f k bt397.1 bt397.2.1 bt397.2.2.1 bt406.1 bt406.2.1 bt406.2.2.1).bind fun t415 => (laws_FnMoved.j0 k bt388.2.2.2 bt397.2.2.2 (!t415) bt388.1 bt388.2.1 bt388.2.2.1 bt397.1 bt397.2.1 bt397.2.2.1)))))))) = some r := h
 clear h
 replace H := Option.bind_eq_some_iff.mp H
 obtain ⟨t387, A20, H⟩ := H
 replace H : (if t387 = true then (some true) else ((spec_DrawMoved.f k l0).bind fun bt388 => ((impl_Moved.f k bt388.1 bt388.2.1 bt388.2.2.1 bt388.2.2.2).bind fun bt397 => ((spec_Moved.f k bt388.1 bt388.2.1 bt388.2.2.1 bt388.2.2.2).bind fun bt406 => (if (bt397.2.2.2 != bt406.2.2.2) = true then (laws_FnMoved.j0 k bt388.2.2.2 bt397.2.2.2 true bt388.1 bt388.2.1 bt388.2.2.1 bt397.1 bt397.2.1 bt397.2.2.1) else ((laws_samePart.f k bt397.1 bt397.2.1 bt397.2.2.1 bt406.1 bt406.2.1 bt406.2.2.1).bind fun t415 => (laws_FnMoved.j0 k bt388.2.2.2 bt397.2.2.2 (!t415) bt388.1 bt388.2.1 bt388.2.2.1 bt397.1 bt397.2.1 bt397.2.2.1))))))) = some r := H
 have A2 := Aside0.mk A20
 clear A20
 by_cases c3 : t387 = true
 ·subst c3
  have H1 : (some true) = some r := by rw [if_pos rfl] at H; exact H
  clear H
  have H := H1
  clear H1
  obtain rfl := Option.some.inj H
  go_enter Try.func11, Try.ntmps11
  go_wp2_with (first | ((with_reducible refine gate_callee (f := 34) rfl ?_); refine goesL_ (some 15) rfl rfl Try.func34 (by kernel_rfl) rfl #[.slice A0 l0.length c0] rfl zT16 ?_; (with_reducible refine (laws_big.calls _ _ l0 true _ ?side1 ?side2 A2.out).mono ?_); (case side1 => exact zC16 HR0.out); (case side2 => exact HC0.out); rintro e w' ⟨rfl, ⟨nd, rfl⟩⟩; refine ⟨_, rfl, ?_⟩))
  go_ret
  exact ⟨zE16, zB16_0⟩
 replace c3 := Bool.eq_false_iff.mpr c3
 subst c3
 have H1 : ((spec_DrawMoved.f k l0).bind fun bt388 => ((impl_Moved.f k bt388.1 bt388.2.1 bt388.2.2.1 bt388.2.2.2).bind fun bt397 => ((spec_Moved.f k bt388.1 bt388.2.1 bt388.2.2.1 bt388.2.2.2).bind fun bt406 => (if (bt397.2.2.2 != bt406.2.2.2) = true then (laws_FnMoved.j0 k bt388.2.2.2 bt397.2.2.2 true bt388.1 bt388.2.1 bt388.2.2.1 bt397.1 bt397.2.1 bt397.2.2.1) else ((laws_samePart.f k bt397.1 bt397.2.1 bt397.2.2.1 bt406.1 bt406.2.1 bt406.2.2.1).bind fun t415 => (laws_FnMoved.j0 k bt388.2.2.2 bt397.2.2.2 (!t415) bt388.1 bt388.2.1 bt388.2.2.1 bt397.1 bt397.2.1 bt397.2.2.1)))))) = some r := by rw [if_neg (show ¬ (false = true) by decide)] at H; exact H
 clear H
 have H := H1
 clear H1
 replace H := Option.bind_eq_some_iff.mp H
 obtain ⟨⟨t388, t389, t392, t395⟩, A40, H⟩ := H
 replace H : ((impl_Moved.f k t388 t389 t392 t395).bind fun bt397 => ((spec_Moved.f k t388 t389 t392 t395).bind fun bt406 => (if (bt397.2.2.2 != bt406.2.2.2) = true then (laws_FnMoved.j0 k t395 bt397.2.2.2 true t388 t389 t392 bt397.1 bt397.2.1 bt397.2.2.1) else ((laws_samePart.f k bt397.1 bt397.2.1 bt397.2.2.1 bt406.1 bt406.2.1 bt406.2.2.1).bind fun t415 => (laws_FnMoved.j0 k t395 bt397.2.2.2 (!t415) t388 t389 t392 bt397.1 bt397.2.1 bt397.2.2.1))))) = some r := H
 have A4 := Aside0.mk A40
 clear A40
 replace H := Option.bind_eq_some_iff.mp H
 obtain ⟨⟨t397, t398, t401, t404⟩, A50, H⟩ := H
 replace H : ((spec_Moved.f k t388 t389 t392 t395).bind fun bt406 => (if (t404 != bt406.2.2.2) = true then (laws_FnMoved.j0 k t395 t404 true t388 t389 t392 t397 t398 t401) else ((laws_samePart.f k t397 t398 t401 bt406.1 bt406.2.1 bt406.2.2.1).bind fun t415 => (laws_FnMoved.j0 k t395 t404 (!t415) t388 t389 t392 t397 t398 t401)))) = some r := H
 have A5 := Aside0.mk A50
 clear A50
 replace H := Option.bind_eq_some_iff.mp H
 obtain ⟨⟨t406, t407, t410, t413⟩, A60, H⟩ := H
 replace H : (if (t404 != t413) = true then (laws_FnMoved.j0 k t395 t404 true t388 t389 t392 t397 t398 t401) else ((laws_samePart.f k t397 t398 t401 t406 t407 t410).bind fun t415 => (laws_FnMoved.j0 k t395 t404 (!t415) t388 t389 t392 t397 t398 t401))) = some r := H
 have A6 := Aside0.mk A60
 clear A60
 have HC7 := Aside0.mk H
 clear H
 go_enter Try.func11, Try.ntmps11
 go_upto_region 6 with (first | ((with_reducible refine gate_callee (f := 34) rfl ?_); refine goesL_ (some 15) rfl rfl Try.func34 (by kernel_rfl) rfl #[.slice A0 l0.length c0] rfl zT16 ?_; (with_reducible refine (laws_big.calls _ _ l0 false _ ?side1 ?side2 A2.out).mono ?_); (case side1 => exact zC16 HR0.out); (case side2 => exact HC0.out); rintro e w' ⟨rfl, ⟨nd, rfl⟩⟩; refine ⟨_, rfl, ?_⟩) | ((with_reducible refine gate_callee (f := 49) rfl ?_); refine goesL_ (some 18) rfl rfl Try.func49 (by kernel_rfl) rfl #[.slice A0 l0.length c0] rfl zT16 ?_; (with_reducible refine (spec_DrawMoved.calls k _ _ l0 t388 t389 t392 t395 _ ?side1 ?side2 A4.out).mono ?_); (case side1 => exact zC16 HR0.out); (case side2 => exact HC0.out); rintro e w8 ⟨v390, v393, rfl, ho0, ho1, hb⟩; refine ⟨_, rfl, ?_⟩; have n0_ := Aside0.mk (Kd.R_lower ho0 (below_size (zB16_0))); have n1_ := Aside0.mk (Kd.R_lower ho1 (below_size (zB16_0))); have n2_ := Aside0.mk (below_step (zB16_0) hb); clear HB; have HO391 := n0_; have HO394 := n1_; have HB := n2_; clear n0_ n1_ n2_; (try clear hb); (try clear hb2); (try clear hk); (try clear hi); (try clear ho0); (try clear ho1)) | ((with_reducible refine gate_dst (N := 3) rfl ?_); (try (refine gate_guard (by rfl) ?_; dsimp only)); refine box_event ?hg (N := 3) ?hd (cs := #[.string (⟨#[]⟩ : ByteArray), .slice none 0 0, .slice none 0 0]) (t := 45) ?hr ?_; (case hd => rfl); (case hg => rfl); (case hr => first | (go_simp; done) | (go_simp; rfl)); intro gb396 hg w9 hbox hb; have n0_ := Aside0.mk (Kd.R_below (zR16 HO391.out) hb); have n1_ := Aside0.mk (Kd.R_below (zR16 HO394.out) hb); have n2_ := Aside0.mk (below_step (zB16_0) hb); have n3_ := Aside0.mk (hbox); have n4_ := Aside0.mk ((by rw [hg]; exact (below_size (zB16_0)) : w.heap.size ≤ gb396)); have n5_ := Aside0.mk ((by rw [hg]; exact (below_size (zB16_0)) : w.heap.size ≤ gb396)); clear HO391; clear HO394; clear HB; have HO391 := n0_; have HO394 := n1_; have HB := n2_; have BK396 := n3_; have GW396 := n4_; have GE396 := n5_; clear n0_ n1_ n2_ n3_ n4_ n5_; clear hb hbox hg; obtain ⟨hcz10_0, hcz10_1, hcz10_2, hfz10_0, hfz10_1, hfz10_2⟩ := zc16_3 (w := w9) BK396.out; obtain ⟨Ao11, co11, eo11⟩ := Kd.R_slice HO391.out; subst eo11; obtain ⟨Ao12, co12, eo12⟩ := Kd.R_slice HO394.out; subst eo12) | ((with_reducible refine gate_callee (f := 50) rfl ?_); refine goesL_ (some 24) rfl rfl Try.func50 (by kernel_rfl) rfl #[.agg #[.string t388, .slice Ao11 t389.length co11, .slice Ao12 t392.length co12], .int .i64 t395] rfl zT16 ?_; (with_reducible refine (impl_Moved.calls k t388 _ _ t389 _ _ t392 t395 t397 t398 t401 t404 _ ?side1 ?side2 ?side3 ?side4 A5.out).mono ?_); (case side1 => refine (Kd.R_reads' (e := 52) (base := w.heap.size) (ok := fun k_ => True) (n := t389.length) (c := co11) ?_).2.2; exact (by (with_reducible repeat (first | apply Kd.R_alloc | apply Kd.R_drewN | apply Kd.R_drew)); exact (Kd.R_mono (Kd.R_far (p := ⟨gb396, 2, none⟩) (Kd.R_far (p := ⟨gb396, 1, none⟩) (Kd.R_far (p := ⟨gb396, 0, none⟩) (Kd.R_types HO391.out BK396.out (by decide)) (fun _ hk => hk.2) (.string t388)) (fun _ hk => hk.2) (.slice Ao11 t389.length co11)) (fun _ hk => hk.2) (.slice Ao12 t392.length co12)) (fun _ h_ => h_.1)))); (case side2 => exact (Kd.R_reads' HO391.out).2.1); (case side3 => refine (Kd.R_reads' (e := 56) (base := w.heap.size) (ok := fun k_ => True) (n := t392.length) (c := co12) ?_).2.2; exact (by (with_reducible repeat (first | apply Kd.R_alloc | apply Kd.R_drewN | apply Kd.R_drew)); exact (Kd.R_mono (Kd.R_far (p := ⟨gb396, 2, none⟩) (Kd.R_far (p := ⟨gb396, 1, none⟩) (Kd.R_far (p := ⟨gb396, 0, none⟩) (Kd.R_types HO394.out BK396.out (by decide)) (fun _ hk => hk.2) (.string t388)) (fun _ hk => hk.2) (.slice Ao11 t389.length co11)) (fun _ hk => hk.2) (.slice Ao12 t392.length co12)) (fun _ h_ => h_.1)))); (case side4 => exact (Kd.R_reads' HO394.out).2.1); rintro e w13 ⟨v399, v402, rfl, ho0, ho1, hb⟩; refine ⟨_, rfl, ?_⟩; have n0_ := Aside0.mk (Kd.R_elder' (by (with_reducible repeat (first | apply Kd.R_alloc | apply Kd.R_drewN | apply Kd.R_drew)); exact (Kd.R_mono (Kd.R_far (p := ⟨gb396, 2, none⟩) (Kd.R_far (p := ⟨gb396, 1, none⟩) (Kd.R_far (p := ⟨gb396, 0, none⟩) (Kd.R_types HO391.out BK396.out (by decide)) (fun _ hk => hk.2) (.string t388)) (fun _ hk => hk.2) (.slice Ao11 t389.length co11)) (fun _ hk => hk.2) (.slice Ao12 t392.length co12)) (fun _ h_ => h_.1))) (Kd.R_base ho0) hb); have n1_ := Aside0.mk (Kd.R_elder' (by (with_reducible repeat (first | apply Kd.R_alloc | apply Kd.R_drewN | apply Kd.R_drew)); exact (Kd.R_mono (Kd.R_far (p := ⟨gb396, 2, none⟩) (Kd.R_far (p := ⟨gb396, 1, none⟩) (Kd.R_far (p := ⟨gb396, 0, none⟩) (Kd.R_types HO394.out BK396.out (by decide)) (fun _ hk => hk.2) (.string t388)) (fun _ hk => hk.2) (.slice Ao11 t389.length co11)) (fun _ hk => hk.2) (.slice Ao12 t392.length co12)) (fun _ h_ => h_.1))) (Kd.R_base ho1) hb); have n2_ := Aside0.mk (Kd.R_lower (Kd.R_new' ho0 (Kd.R_lt (by (with_reducible repeat (first | apply Kd.R_alloc | apply Kd.R_drewN | apply Kd.R_drew)); exact (Kd.R_mono (Kd.R_far (p := ⟨gb396, 2, none⟩) (Kd.R_far (p := ⟨gb396, 1, none⟩) (Kd.R_far (p := ⟨gb396, 0, none⟩) (Kd.R_types HO391.out BK396.out (by decide)) (fun _ hk => hk.2) (.string t388)) (fun _ hk => hk.2) (.slice Ao11 t389.length co11)) (fun _ hk => hk.2) (.slice Ao12 t392.length co12)) (fun _ h_ => h_.1))))) (below_size (zB16_1))); have n3_ := Aside0.mk (Kd.R_lower (Kd.R_new' ho1 (Kd.R_lt (by (with_reducible repeat (first | apply Kd.R_alloc | apply Kd.R_drewN | apply Kd.R_drew)); exact (Kd.R_mono (Kd.R_far (p := ⟨gb396, 2, none⟩) (Kd.R_far (p := ⟨gb396, 1, none⟩) (Kd.R_far (p := ⟨gb396, 0, none⟩) (Kd.R_types HO394.out BK396.out (by decide)) (fun _ hk => hk.2) (.string t388)) (fun _ hk => hk.2) (.slice Ao11 t389.length co11)) (fun _ hk => hk.2) (.slice Ao12 t392.length co12)) (fun _ h_ => h_.1))))) (below_size (zB16_1))); have n4_ := Aside0.mk (blk_below (g := gb396) (o := .cells #[.string t388, .slice Ao11 t389.length co11, .slice Ao12 t392.length co12] 45 (0, 0)) (by refine zP16 ?_; refine blk_put (cs := #[.string t388, .slice Ao11 t389.length co11, .slice none 0 0]) ?_ 2 _ rfl; refine zP16 ?_; refine blk_put (cs := #[.string t388, .slice none 0 0, .slice none 0 0]) ?_ 1 _ rfl; refine zP16 ?_; refine blk_put (cs := #[.string (⟨#[]⟩ : ByteArray), .slice none 0 0, .slice none 0 0]) ?_ 0 _ rfl; refine zP16 ?_; exact BK396.out) hb); have n5_ := Aside0.mk (below_step (zB16_1) hb); clear HO391; clear HO394; clear BK396; clear HB; have HO391 := n0_; have HO394 := n1_; have HO400 := n2_; have HO403 := n3_; have BK396 := n4_; have HB := n5_; clear n0_ n1_ n2_ n3_ n4_ n5_; (try clear hb); (try clear hb2); (try clear hk); (try clear hi); (try clear ho0); (try clear ho1)) | ((with_reducible refine gate_dst (N := 5) rfl ?_); (try (refine gate_guard (by rfl) ?_; dsimp only)); refine box_event ?hg (N := 5) ?hd (cs := #[.string (⟨#[]⟩ : ByteArray), .slice none 0 0, .slice none 0 0]) (t := 45) ?hr ?_; (case hd => rfl); (case hg => rfl); (case hr => first | (go_simp; done) | (go_simp; rfl)); intro gb405 hg w14 hbox hb; have n0_ := Aside0.mk (Kd.R_below (zR16 HO391.out) hb); have n1_ := Aside0.mk (Kd.R_below (zR16 HO394.out) hb); have n2_ := Aside0.mk (Kd.R_below (zR16 HO400.out) hb); have n3_ := Aside0.mk (Kd.R_below (zR16 HO403.out) hb); have n4_ := Aside0.mk (zb16 BK396.out hb); have n5_ := Aside0.mk (below_step (zB16_1) hb); have n6_ := Aside0.mk (hbox); have n7_ := Aside0.mk ((by rw [hg]; exact (below_size (zB16_1)) : w.heap.size ≤ gb405)); have n8_ := Aside0.mk ((by rw [hg]; exact (below_size (zB16_1)) : w.heap.size ≤ gb405)); have n9_ := Aside0.mk ((zn16 BK396.out hg : gb396 ≠ gb405)); have n10_ := Aside0.mk ((zm16 BK396.out hg : gb405 ≠ gb396)); clear HO391; clear HO394; clear HO400; clear HO403; clear BK396; clear HB; have HO391 := n0_; have HO394 := n1_; have HO400 := n2_; have HO403 := n3_; have BK396 := n4_; have HB := n5_; have BK405 := n6_; have GW405 := n7_; have GE405 := n8_; have NB396_405 := n9_; have NB405_396 := n10_; clear n0_ n1_ n2_ n3_ n4_ n5_ n6_ n7_ n8_ n9_ n10_; clear hb hbox hg; have hnb15 := NB405_396.out; have hnc15 := NB396_405.out; obtain ⟨hcz16_0, hcz16_1, hcz16_2, hfz16_0, hfz16_1, hfz16_2⟩ := zc16_3 (w := w14) BK405.out; obtain ⟨Ao17, co17, eo17⟩ := Kd.R_slice HO400.out; subst eo17; obtain ⟨Ao18, co18, eo18⟩ := Kd.R_slice HO403.out; subst eo18; obtain ⟨hcz19_0, hcz19_1, hcz19_2, hfz19_0, hfz19_1, hfz19_2⟩ := zc16_3 (w := w14) BK396.out) | ((with_reducible refine gate_callee (f := 51) rfl ?_); refine goesL_ (some 30) rfl rfl Try.func51 (by kernel_rfl) rfl #[.agg #[.string t388, .slice Ao11 t389.length co11, .slice Ao12 t392.length co12], .int .i64 t395] rfl zT16 ?_; (with_reducible refine (spec_Moved.calls k t388 _ _ t389 _ _ t392 t395 t406 t407 t410 t413 _ ?side1 ?side2 ?side3 ?side4 A6.out).mono ?_); (case side1 => refine (Kd.R_reads' (e := 52) (base := w.heap.size) (ok := fun k_ => (True ∧ some k_ ≠ (.slice Ao17 t398.length co17 : Value).ownBlock)) (n := t389.length) (c := co11) ?_).2.2; exact (by (with_reducible repeat (first | apply Kd.R_alloc | apply Kd.R_drewN | apply Kd.R_drew)); exact (Kd.R_mono (Kd.R_far (p := ⟨gb405, 2, none⟩) (Kd.R_far (p := ⟨gb405, 1, none⟩) (Kd.R_far (p := ⟨gb405, 0, none⟩) (Kd.R_types HO391.out BK405.out (by decide)) (fun _ hk => hk.2) (.string t397)) (fun _ hk => hk.2) (.slice Ao17 t398.length co17)) (fun _ hk => hk.2) (.slice Ao18 t401.length co18)) (fun _ h_ => h_.1)))); (case side2 => exact (Kd.R_reads' HO391.out).2.1); (case side3 => refine (Kd.R_reads' (e := 56) (base := w.heap.size) (ok := fun k_ => (True ∧ some k_ ≠ (.slice Ao18 t401.length co18 : Value).ownBlock)) (n := t392.length) (c := co12) ?_).2.2; exact (by (with_reducible repeat (first | apply Kd.R_alloc | apply Kd.R_drewN | apply Kd.R_drew)); exact (Kd.R_mono (Kd.R_far (p := ⟨gb405, 2, none⟩) (Kd.R_far (p := ⟨gb405, 1, none⟩) (Kd.R_far (p := ⟨gb405, 0, none⟩) (Kd.R_types HO394.out BK405.out (by decide)) (fun _ hk => hk.2) (.string t397)) (fun _ hk => hk.2) (.slice Ao17 t398.length co17)) (fun _ hk => hk.2) (.slice Ao18 t401.length co18)) (fun _ h_ => h_.1)))); (case side4 => exact (Kd.R_reads' HO394.out).2.1); rintro e w20 ⟨v408, v411, rfl, ho0, ho1, hb⟩; refine ⟨_, rfl, ?_⟩; have n0_ := Aside0.mk (Kd.R_elder' (by (with_reducible repeat (first | apply Kd.R_alloc | apply Kd.R_drewN | apply Kd.R_drew)); exact (Kd.R_mono (Kd.R_far (p := ⟨gb405, 2, none⟩) (Kd.R_far (p := ⟨gb405, 1, none⟩) (Kd.R_far (p := ⟨gb405, 0, none⟩) (Kd.R_types HO391.out BK405.out (by decide)) (fun _ hk => hk.2) (.string t397)) (fun _ hk => hk.2) (.slice Ao17 t398.length co17)) (fun _ hk => hk.2) (.slice Ao18 t401.length co18)) (fun _ h_ => h_.1))) (Kd.R_base ho0) hb); have n1_ := Aside0.mk (Kd.R_elder' (by (with_reducible repeat (first | apply Kd.R_alloc | apply Kd.R_drewN | apply Kd.R_drew)); exact (Kd.R_mono (Kd.R_far (p := ⟨gb405, 2, none⟩) (Kd.R_far (p := ⟨gb405, 1, none⟩) (Kd.R_far (p := ⟨gb405, 0, none⟩) (Kd.R_types HO394.out BK405.out (by decide)) (fun _ hk => hk.2) (.string t397)) (fun _ hk => hk.2) (.slice Ao17 t398.length co17)) (fun _ hk => hk.2) (.slice Ao18 t401.length co18)) (fun _ h_ => h_.1))) (Kd.R_base ho1) hb); have n2_ := Aside0.mk (Kd.R_elder' (by (with_reducible repeat (first | apply Kd.R_alloc | apply Kd.R_drewN | apply Kd.R_drew)); exact (Kd.R_mono (Kd.R_far (p := ⟨gb405, 2, none⟩) (Kd.R_far (p := ⟨gb405, 1, none⟩) (Kd.R_far (p := ⟨gb405, 0, none⟩) (Kd.R_types HO400.out BK405.out (by decide)) (fun _ hk => hk.2) (.string t397)) (fun _ hk => hk.2) (.slice Ao17 t398.length co17)) (fun _ hk => hk.2) (.slice Ao18 t401.length co18)) (fun _ h_ => h_.1))) (Kd.R_base ho0) hb); have n3_ := Aside0.mk (Kd.R_elder' (by (with_reducible repeat (first | apply Kd.R_alloc | apply Kd.R_drewN | apply Kd.R_drew)); exact (Kd.R_mono (Kd.R_far (p := ⟨gb405, 2, none⟩) (Kd.R_far (p := ⟨gb405, 1, none⟩) (Kd.R_far (p := ⟨gb405, 0, none⟩) (Kd.R_types HO403.out BK405.out (by decide)) (fun _ hk => hk.2) (.string t397)) (fun _ hk => hk.2) (.slice Ao17 t398.length co17)) (fun _ hk => hk.2) (.slice Ao18 t401.length co18)) (fun _ h_ => h_.1))) (Kd.R_base ho1) hb); have n4_ := Aside0.mk (Kd.R_lower (Kd.R_new' (Kd.R_new' ho0 (Kd.R_lt (by (with_reducible repeat (first | apply Kd.R_alloc | apply Kd.R_drewN | apply Kd.R_drew)); exact (Kd.R_mono (Kd.R_far (p := ⟨gb405, 2, none⟩) (Kd.R_far (p := ⟨gb405, 1, none⟩) (Kd.R_far (p := ⟨gb405, 0, none⟩) (Kd.R_types HO391.out BK405.out (by decide)) (fun _ hk => hk.2) (.string t397)) (fun _ hk => hk.2) (.slice Ao17 t398.length co17)) (fun _ hk => hk.2) (.slice Ao18 t401.length co18)) (fun _ h_ => h_.1))))) (Kd.R_lt (by (with_reducible repeat (first | apply Kd.R_alloc | apply Kd.R_drewN | apply Kd.R_drew)); exact (Kd.R_mono (Kd.R_far (p := ⟨gb405, 2, none⟩) (Kd.R_far (p := ⟨gb405, 1, none⟩) (Kd.R_far (p := ⟨gb405, 0, none⟩) (Kd.R_types HO400.out BK405.out (by decide)) (fun _ hk => hk.2) (.string t397)) (fun _ hk => hk.2) (.slice Ao17 t398.length co17)) (fun _ hk => hk.2) (.slice Ao18 t401.length co18)) (fun _ h_ => h_.1))))) (below_size (zB16_2))); have n5_ := Aside0.mk (Kd.R_lower (Kd.R_new' (Kd.R_new' ho1 (Kd.R_lt (by (with_reducible repeat (first | apply Kd.R_alloc | apply Kd.R_drewN | apply Kd.R_drew)); exact (Kd.R_mono (Kd.R_far (p := ⟨gb405, 2, none⟩) (Kd.R_far (p := ⟨gb405, 1, none⟩) (Kd.R_far (p := ⟨gb405, 0, none⟩) (Kd.R_types HO394.out BK405.out (by decide)) (fun _ hk => hk.2) (.string t397)) (fun _ hk => hk.2) (.slice Ao17 t398.length co17)) (fun _ hk => hk.2) (.slice Ao18 t401.length co18)) (fun _ h_ => h_.1))))) (Kd.R_lt (by (with_reducible repeat (first | apply Kd.R_alloc | apply Kd.R_drewN | apply Kd.R_drew)); exact (Kd.R_mono (Kd.R_far (p := ⟨gb405, 2, none⟩) (Kd.R_far (p := ⟨gb405, 1, none⟩) (Kd.R_far (p := ⟨gb405, 0, none⟩) (Kd.R_types HO403.out BK405.out (by decide)) (fun _ hk => hk.2) (.string t397)) (fun _ hk => hk.2) (.slice Ao17 t398.length co17)) (fun _ hk => hk.2) (.slice Ao18 t401.length co18)) (fun _ h_ => h_.1))))) (below_size (zB16_2))); have n6_ := Aside0.mk (blk_below (g := gb396) (o := .cells #[.string t388, .slice Ao11 t389.length co11, .slice Ao12 t392.length co12] 45 (0, 0)) (by refine zP16 ?_; refine blk_far ?_ NB396_405.out _; refine zP16 ?_; refine blk_far ?_ NB396_405.out _; refine zP16 ?_; refine blk_far ?_ NB396_405.out _; refine zP16 ?_; exact BK396.out) hb); have n7_ := Aside0.mk (blk_below (g := gb405) (o := .cells #[.string t397, .slice Ao17 t398.length co17, .slice Ao18 t401.length co18] 45 (0, 0)) (by refine zP16 ?_; refine blk_put (cs := #[.string t397, .slice Ao17 t398.length co17, .slice none 0 0]) ?_ 2 _ rfl; refine zP16 ?_; refine blk_put (cs := #[.string t397, .slice none 0 0, .slice none 0 0]) ?_ 1 _ rfl; refine zP16 ?_; refine blk_put (cs := #[.string (⟨#[]⟩ : ByteArray), .slice none 0 0, .slice none 0 0]) ?_ 0 _ rfl; refine zP16 ?_; exact BK405.out) hb); have n8_ := Aside0.mk (below_step (zB16_2) hb); clear HO391; clear HO394; clear HO400; clear HO403; clear BK396; clear BK405; clear HB; have HO391 := n0_; have HO394 := n1_; have HO400 := n2_; have HO403 := n3_; have HO409 := n4_; have HO412 := n5_; have BK396 := n6_; have BK405 := n7_; have HB := n8_; clear n0_ n1_ n2_ n3_ n4_ n5_ n6_ n7_ n8_; (try clear hb); (try clear hb2); (try clear hk); (try clear hi); (try clear ho0); (try clear ho1)) | ((with_reducible refine gate_dst (N := 7) rfl ?_); (try (refine gate_guard (by rfl) ?_; dsimp only)); refine box_event ?hg (N := 7) ?hd (cs := #[.string (⟨#[]⟩ : ByteArray), .slice none 0 0, .slice none 0 0]) (t := 45) ?hr ?_; (case hd => rfl); (case hg => rfl); (case hr => first | (go_simp; done) | (go_simp; rfl)); intro gb414 hg w21 hbox hb; have n0_ := Aside0.mk (Kd.R_below (zR16 HO391.out) hb); have n1_ := Aside0.mk (Kd.R_below (zR16 HO394.out) hb); have n2_ := Aside0.mk (Kd.R_below (zR16 HO400.out) hb); have n3_ := Aside0.mk (Kd.R_below (zR16 HO403.out) hb); have n4_ := Aside0.mk (Kd.R_below (zR16 HO409.out) hb); have n5_ := Aside0.mk (Kd.R_below (zR16 HO412.out) hb); have n6_ := Aside0.mk (zb16 BK396.out hb); have n7_ := Aside0.mk (zb16 BK405.out hb); have n8_ := Aside0.mk (below_step (zB16_2) hb); have n9_ := Aside0.mk (hbox); have n10_ := Aside0.mk ((by rw [hg]; exact (below_size (zB16_2)) : w.heap.size ≤ gb414)); have n11_ := Aside0.mk ((by rw [hg]; exact (below_size (zB16_2)) : w.heap.size ≤ gb414)); have n12_ := Aside0.mk ((zn16 BK396.out hg : gb396 ≠ gb414)); have n13_ := Aside0.mk ((zm16 BK396.out hg : gb414 ≠ gb396)); have n14_ := Aside0.mk ((zn16 BK405.out hg : gb405 ≠ gb414)); have n15_ := Aside0.mk ((zm16 BK405.out hg : gb414 ≠ gb405)); clear HO391; clear HO394; clear HO400; clear HO403; clear HO409; clear HO412; clear BK396; clear BK405; clear HB; have HO391 := n0_; have HO394 := n1_; have HO400 := n2_; have HO403 := n3_; have HO409 := n4_; have HO412 := n5_; have BK396 := n6_; have BK405 := n7_; have HB := n8_; have BK414 := n9_; have GW414 := n10_; have GE414 := n11_; have NB396_414 := n12_; have NB414_396 := n13_; have NB405_414 := n14_; have NB414_405 := n15_; clear n0_ n1_ n2_ n3_ n4_ n5_ n6_ n7_ n8_ n9_ n10_ n11_ n12_ n13_ n14_ n15_; clear hb hbox hg; have hnb22 := NB414_396.out; have hnc22 := NB396_414.out; have hnb23 := NB414_405.out; have hnc23 := NB405_414.out; obtain ⟨hcz24_0, hcz24_1, hcz24_2, hfz24_0, hfz24_1, hfz24_2⟩ := zc16_3 (w := w21) BK414.out; obtain ⟨Ao25, co25, eo25⟩ := Kd.R_slice HO409.out; subst eo25; obtain ⟨Ao26, co26, eo26⟩ := Kd.R_slice HO412.out; subst eo26))
 (try simp only [Act.put, List.setIfInBounds_toArray, List.set_cons_zero, List.set_cons_succ])
 go_cut [41] (fun v41 wc => ∃ (kq : Nat) (x41_6 : Bool), v41 = .bool x41_6 ∧ Aside0 (laws_FnMoved.j0 kq t395 t404 x41_6 t388 t389 t392 t397 t398 t401 = some r) ∧ Aside0 (kq ≤ k) ∧ Aside0 (Kd.R k52 52 wc w.heap.size (fun k_ => some k_ ≠ ((.slice Ao17 t398.length co17) : Value).ownBlock ∧ some k_ ≠ ((.slice Ao25 t407.length co25) : Value).ownBlock) (.slice Ao11 t389.length co11) t389) ∧ Aside0 (Kd.R k56 56 wc w.heap.size (fun k_ => some k_ ≠ ((.slice Ao18 t401.length co18) : Value).ownBlock ∧ some k_ ≠ ((.slice Ao26 t410.length co26) : Value).ownBlock) (.slice Ao12 t392.length co12) t392) ∧ Aside0 (Kd.R k52 52 wc w.heap.size (fun k_ => some k_ ≠ ((.slice Ao11 t389.length co11) : Value).ownBlock ∧ some k_ ≠ ((.slice Ao25 t407.length co25) : Value).ownBlock) (.slice Ao17 t398.length co17) t398) ∧ Aside0 (Kd.R k56 56 wc w.heap.size (fun k_ => some k_ ≠ ((.slice Ao12 t392.length co12) : Value).ownBlock ∧ some k_ ≠ ((.slice Ao26 t410.length co26) : Value).ownBlock) (.slice Ao18 t401.length co18) t401) ∧ Aside0 (Kd.R k52 52 wc w.heap.size (fun k_ => some k_ ≠ ((.slice Ao11 t389.length co11) : Value).ownBlock ∧ some k_ ≠ ((.slice Ao17 t398.length co17) : Value).ownBlock) (.slice Ao25 t407.length co25) t407) ∧ Aside0 (Kd.R k56 56 wc w.heap.size (fun k_ => some k_ ≠ ((.slice Ao12 t392.length co12) : Value).ownBlock ∧ some k_ ≠ ((.slice Ao18 t401.length co18) : Value).ownBlock) (.slice Ao26 t410.length co26) t410) ∧ Aside0 (wc.heap[gb396]? = some (.cells #[.string t388, (.slice Ao11 t389.length co11), (.slice Ao12 t392.length co12)] 45 (0, 0))) ∧ Aside0 (wc.heap[gb405]? = some (.cells #[.string t397, (.slice Ao17 t398.length co17), (.slice Ao18 t401.length co18)] 45 (0, 0))) ∧ Aside0 (wc.heap[gb414]? = some (.cells #[.string t406, (.slice Ao25 t407.length co25), (.slice Ao26 t410.length co26)] 45 (0, 0))) ∧ Aside0 (Below w.heap.size w wc))
 case first =>
  have H := HC7.out
  clear HC7
  by_cases c27 : (t404 != t413) = true
  ·rw [if_pos c27] at H
   have c27b0 : (t404 != t413) = true := c27
   (try (have c27b1 : decide (t404 = t413) = false := by simpa using c27))
   (try (have c27b2 : (t404 == t413) = false := by simpa using c27))
   (try (have c27b3 : ¬ (t404 = t413) := by simpa using c27))
   clear c27
   (first | rw [c27b0] | (simp only [i64_w, i32_w]; rw [c27b0]) | skip)
   have H' := Aside0.mk H
   clear H
   go_wp2
   go_meet
   case rel => exact ⟨_, (true), (by first | rfl | (simp; done) | (simp [*]; done)), H', ⟨by first | omega | exact Nat.le_refl _⟩, ⟨by (with_reducible repeat (first | apply Kd.R_alloc | apply Kd.R_drewN | apply Kd.R_drew)); exact Kd.R_mono (Kd.R_far (p := ⟨gb414, 2, none⟩) (Kd.R_far (p := ⟨gb414, 1, none⟩) (Kd.R_far (p := ⟨gb414, 0, none⟩) (Kd.R_types HO391.out BK414.out (by decide)) (fun _ hk => hk.2) (.string t406)) (fun _ hk => hk.2) (.slice Ao25 t407.length co25)) (fun _ hk => hk.2) (.slice Ao26 t410.length co26)) (fun _ hk => ⟨hk.1.1.2, hk.1.2⟩)⟩, ⟨by (with_reducible repeat (first | apply Kd.R_alloc | apply Kd.R_drewN | apply Kd.R_drew)); exact Kd.R_mono (Kd.R_far (p := ⟨gb414, 2, none⟩) (Kd.R_far (p := ⟨gb414, 1, none⟩) (Kd.R_far (p := ⟨gb414, 0, none⟩) (Kd.R_types HO394.out BK414.out (by decide)) (fun _ hk => hk.2) (.string t406)) (fun _ hk => hk.2) (.slice Ao25 t407.length co25)) (fun _ hk => hk.2) (.slice Ao26 t410.length co26)) (fun _ hk => ⟨hk.1.1.2, hk.1.2⟩)⟩, ⟨by (with_reducible repeat (first | apply Kd.R_alloc | apply Kd.R_drewN | apply Kd.R_drew)); exact Kd.R_mono (Kd.R_far (p := ⟨gb414, 2, none⟩) (Kd.R_far (p := ⟨gb414, 1, none⟩) (Kd.R_far (p := ⟨gb414, 0, none⟩) (Kd.R_types HO400.out BK414.out (by decide)) (fun _ hk => hk.2) (.string t406)) (fun _ hk => hk.2) (.slice Ao25 t407.length co25)) (fun _ hk => hk.2) (.slice Ao26 t410.length co26)) (fun _ hk => ⟨hk.1.1.2, hk.1.2⟩)⟩, ⟨by (with_reducible repeat (first | apply Kd.R_alloc | apply Kd.R_drewN | apply Kd.R_drew)); exact Kd.R_mono (Kd.R_far (p := ⟨gb414, 2, none⟩) (Kd.R_far (p := ⟨gb414, 1, none⟩) (Kd.R_far (p := ⟨gb414, 0, none⟩) (Kd.R_types HO403.out BK414.out (by decide)) (fun _ hk => hk.2) (.string t406)) (fun _ hk => hk.2) (.slice Ao25 t407.length co25)) (fun _ hk => hk.2) (.slice Ao26 t410.length co26)) (fun _ hk => ⟨hk.1.1.2, hk.1.2⟩)⟩, ⟨by (with_reducible repeat (first | apply Kd.R_alloc | apply Kd.R_drewN | apply Kd.R_drew)); exact Kd.R_mono (Kd.R_far (p := ⟨gb414, 2, none⟩) (Kd.R_far (p := ⟨gb414, 1, none⟩) (Kd.R_far (p := ⟨gb414, 0, none⟩) (Kd.R_types HO409.out BK414.out (by decide)) (fun _ hk => hk.2) (.string t406)) (fun _ hk => hk.2) (.slice Ao25 t407.length co25)) (fun _ hk => hk.2) (.slice Ao26 t410.length co26)) (fun _ hk => ⟨hk.1.1.2, hk.1.2⟩)⟩, ⟨by (with_reducible repeat (first | apply Kd.R_alloc | apply Kd.R_drewN | apply Kd.R_drew)); exact Kd.R_mono (Kd.R_far (p := ⟨gb414, 2, none⟩) (Kd.R_far (p := ⟨gb414, 1, none⟩) (Kd.R_far (p := ⟨gb414, 0, none⟩) (Kd.R_types HO412.out BK414.out (by decide)) (fun _ hk => hk.2) (.string t406)) (fun _ hk => hk.2) (.slice Ao25 t407.length co25)) (fun _ hk => hk.2) (.slice Ao26 t410.length co26)) (fun _ hk => ⟨hk.1.1.2, hk.1.2⟩)⟩, ⟨by refine zP16 ?_; refine blk_far ?_ NB396_414.out _; refine zP16 ?_; refine blk_far ?_ NB396_414.out _; refine zP16 ?_; refine blk_far ?_ NB396_414.out _; refine zP16 ?_; exact BK396.out⟩, ⟨by refine zP16 ?_; refine blk_far ?_ NB405_414.out _; refine zP16 ?_; refine blk_far ?_ NB405_414.out _; refine zP16 ?_; refine blk_far ?_ NB405_414.out _; refine zP16 ?_; exact BK405.out⟩, ⟨by refine zP16 ?_; refine blk_put (cs := #[.string t406, .slice Ao25 t407.length co25, .slice none 0 0]) ?_ 2 _ rfl; refine zP16 ?_; refine blk_put (cs := #[.string t406, .slice none 0 0, .slice none 0 0]) ?_ 1 _ rfl; refine zP16 ?_; refine blk_put (cs := #[.string (⟨#[]⟩ : ByteArray), .slice none 0 0, .slice none 0 0]) ?_ 0 _ rfl; refine zP16 ?_; exact BK414.out⟩, ⟨zB16_3⟩⟩
  rw [if_neg c27] at H
  have c27b0 : (t404 != t413) = false := by simpa using c27
  (try (have c27b1 : decide (t404 = t413) = true := by simpa using c27))
  (try (have c27b2 : (t404 == t413) = true := by simpa using c27))
  clear c27
  (first | rw [c27b0] | (simp only [i64_w, i32_w]; rw [c27b0]) | skip)
  replace H := Option.bind_eq_some_iff.mp H
  obtain ⟨t415, A280, H⟩ := H
  replace H : (laws_FnMoved.j0 k t395 t404 (!t415) t388 t389 t392 t397 t398 t401) = some r := H
  have A28 := Aside0.mk A280
  clear A280
  have H' := Aside0.mk H
  clear H
  have hnb29 := NB405_396.out
  have hnc29 := NB396_405.out
  have hnb30 := NB405_414.out
  have hnc30 := NB414_405.out
  obtain ⟨hcz31_0, hcz31_1, hcz31_2, hfz31_0, hfz31_1, hfz31_2⟩ := zc16_3 (w := w21) BK405.out
  have hnb32 := NB414_396.out
  have hnc32 := NB396_414.out
  obtain ⟨hcz33_0, hcz33_1, hcz33_2, hfz33_0, hfz33_1, hfz33_2⟩ := zc16_3 (w := w21) BK414.out
  go_wp2_with (first | (go_at_call 52; (with_reducible refine (laws_samePart.calls k t397 _ _ t398 _ _ t401 t406 _ _ t407 _ _ t410 t415 _ ?side1 ?side2 ?side3 ?side4 ?side5 ?side6 ?side7 ?side8 A28.out).mono ?_); (case side1 => refine (Kd.R_reads' (e := 52) (base := w.heap.size) (ok := fun k_ => ((True ∧ some k_ ≠ (.slice Ao11 t389.length co11 : Value).ownBlock) ∧ some k_ ≠ (.slice Ao25 t407.length co25 : Value).ownBlock)) (n := t398.length) (c := co17) ?_).2.2; exact (by (with_reducible repeat (first | apply Kd.R_alloc | apply Kd.R_drewN | apply Kd.R_drew)); exact (Kd.R_mono (Kd.R_far (p := ⟨gb414, 2, none⟩) (Kd.R_far (p := ⟨gb414, 1, none⟩) (Kd.R_far (p := ⟨gb414, 0, none⟩) (Kd.R_types HO400.out BK414.out (by decide)) (fun _ hk => hk.2) (.string t406)) (fun _ hk => hk.2) (.slice Ao25 t407.length co25)) (fun _ hk => hk.2) (.slice Ao26 t410.length co26)) (fun _ h_ => h_.1)))); (case side2 => exact (Kd.R_reads' HO400.out).2.1); (case side3 => refine (Kd.R_reads' (e := 56) (base := w.heap.size) (ok := fun k_ => ((True ∧ some k_ ≠ (.slice Ao12 t392.length co12 : Value).ownBlock) ∧ some k_ ≠ (.slice Ao26 t410.length co26 : Value).ownBlock)) (n := t401.length) (c := co18) ?_).2.2; exact (by (with_reducible repeat (first | apply Kd.R_alloc | apply Kd.R_drewN | apply Kd.R_drew)); exact (Kd.R_mono (Kd.R_far (p := ⟨gb414, 2, none⟩) (Kd.R_far (p := ⟨gb414, 1, none⟩) (Kd.R_far (p := ⟨gb414, 0, none⟩) (Kd.R_types HO403.out BK414.out (by decide)) (fun _ hk => hk.2) (.string t406)) (fun _ hk => hk.2) (.slice Ao25 t407.length co25)) (fun _ hk => hk.2) (.slice Ao26 t410.length co26)) (fun _ h_ => h_.1)))); (case side4 => exact (Kd.R_reads' HO403.out).2.1); (case side5 => refine (Kd.R_reads' (e := 52) (base := w.heap.size) (ok := fun k_ => ((True ∧ some k_ ≠ (.slice Ao11 t389.length co11 : Value).ownBlock) ∧ some k_ ≠ (.slice Ao17 t398.length co17 : Value).ownBlock)) (n := t407.length) (c := co25) ?_).2.2; exact (by (with_reducible repeat (first | apply Kd.R_alloc | apply Kd.R_drewN | apply Kd.R_drew)); exact (Kd.R_mono (Kd.R_far (p := ⟨gb414, 2, none⟩) (Kd.R_far (p := ⟨gb414, 1, none⟩) (Kd.R_far (p := ⟨gb414, 0, none⟩) (Kd.R_types HO409.out BK414.out (by decide)) (fun _ hk => hk.2) (.string t406)) (fun _ hk => hk.2) (.slice Ao25 t407.length co25)) (fun _ hk => hk.2) (.slice Ao26 t410.length co26)) (fun _ h_ => h_.1)))); (case side6 => exact (Kd.R_reads' HO409.out).2.1); (case side7 => refine (Kd.R_reads' (e := 56) (base := w.heap.size) (ok := fun k_ => ((True ∧ some k_ ≠ (.slice Ao12 t392.length co12 : Value).ownBlock) ∧ some k_ ≠ (.slice Ao18 t401.length co18 : Value).ownBlock)) (n := t410.length) (c := co26) ?_).2.2; exact (by (with_reducible repeat (first | apply Kd.R_alloc | apply Kd.R_drewN | apply Kd.R_drew)); exact (Kd.R_mono (Kd.R_far (p := ⟨gb414, 2, none⟩) (Kd.R_far (p := ⟨gb414, 1, none⟩) (Kd.R_far (p := ⟨gb414, 0, none⟩) (Kd.R_types HO412.out BK414.out (by decide)) (fun _ hk => hk.2) (.string t406)) (fun _ hk => hk.2) (.slice Ao25 t407.length co25)) (fun _ hk => hk.2) (.slice Ao26 t410.length co26)) (fun _ h_ => h_.1)))); (case side8 => exact (Kd.R_reads' HO412.out).2.1); rintro e w34 ⟨rfl, hb⟩; have n0_ := Aside0.mk (Kd.R_below (by (with_reducible repeat (first | apply Kd.R_alloc | apply Kd.R_drewN | apply Kd.R_drew)); exact (Kd.R_mono (Kd.R_far (p := ⟨gb414, 2, none⟩) (Kd.R_far (p := ⟨gb414, 1, none⟩) (Kd.R_far (p := ⟨gb414, 0, none⟩) (Kd.R_types HO391.out BK414.out (by decide)) (fun _ hk => hk.2) (.string t406)) (fun _ hk => hk.2) (.slice Ao25 t407.length co25)) (fun _ hk => hk.2) (.slice Ao26 t410.length co26)) (fun _ h_ => h_.1))) hb); have n1_ := Aside0.mk (Kd.R_below (by (with_reducible repeat (first | apply Kd.R_alloc | apply Kd.R_drewN | apply Kd.R_drew)); exact (Kd.R_mono (Kd.R_far (p := ⟨gb414, 2, none⟩) (Kd.R_far (p := ⟨gb414, 1, none⟩) (Kd.R_far (p := ⟨gb414, 0, none⟩) (Kd.R_types HO394.out BK414.out (by decide)) (fun _ hk => hk.2) (.string t406)) (fun _ hk => hk.2) (.slice Ao25 t407.length co25)) (fun _ hk => hk.2) (.slice Ao26 t410.length co26)) (fun _ h_ => h_.1))) hb); have n2_ := Aside0.mk (Kd.R_below (by (with_reducible repeat (first | apply Kd.R_alloc | apply Kd.R_drewN | apply Kd.R_drew)); exact (Kd.R_mono (Kd.R_far (p := ⟨gb414, 2, none⟩) (Kd.R_far (p := ⟨gb414, 1, none⟩) (Kd.R_far (p := ⟨gb414, 0, none⟩) (Kd.R_types HO400.out BK414.out (by decide)) (fun _ hk => hk.2) (.string t406)) (fun _ hk => hk.2) (.slice Ao25 t407.length co25)) (fun _ hk => hk.2) (.slice Ao26 t410.length co26)) (fun _ h_ => h_.1))) hb); have n3_ := Aside0.mk (Kd.R_below (by (with_reducible repeat (first | apply Kd.R_alloc | apply Kd.R_drewN | apply Kd.R_drew)); exact (Kd.R_mono (Kd.R_far (p := ⟨gb414, 2, none⟩) (Kd.R_far (p := ⟨gb414, 1, none⟩) (Kd.R_far (p := ⟨gb414, 0, none⟩) (Kd.R_types HO403.out BK414.out (by decide)) (fun _ hk => hk.2) (.string t406)) (fun _ hk => hk.2) (.slice Ao25 t407.length co25)) (fun _ hk => hk.2) (.slice Ao26 t410.length co26)) (fun _ h_ => h_.1))) hb); have n4_ := Aside0.mk (Kd.R_below (by (with_reducible repeat (first | apply Kd.R_alloc | apply Kd.R_drewN | apply Kd.R_drew)); exact (Kd.R_mono (Kd.R_far (p := ⟨gb414, 2, none⟩) (Kd.R_far (p := ⟨gb414, 1, none⟩) (Kd.R_far (p := ⟨gb414, 0, none⟩) (Kd.R_types HO409.out BK414.out (by decide)) (fun _ hk => hk.2) (.string t406)) (fun _ hk => hk.2) (.slice Ao25 t407.length co25)) (fun _ hk => hk.2) (.slice Ao26 t410.length co26)) (fun _ h_ => h_.1))) hb); have n5_ := Aside0.mk (Kd.R_below (by (with_reducible repeat (first | apply Kd.R_alloc | apply Kd.R_drewN | apply Kd.R_drew)); exact (Kd.R_mono (Kd.R_far (p := ⟨gb414, 2, none⟩) (Kd.R_far (p := ⟨gb414, 1, none⟩) (Kd.R_far (p := ⟨gb414, 0, none⟩) (Kd.R_types HO412.out BK414.out (by decide)) (fun _ hk => hk.2) (.string t406)) (fun _ hk => hk.2) (.slice Ao25 t407.length co25)) (fun _ hk => hk.2) (.slice Ao26 t410.length co26)) (fun _ h_ => h_.1))) hb); have n6_ := Aside0.mk (blk_below (g := gb396) (o := .cells #[.string t388, .slice Ao11 t389.length co11, .slice Ao12 t392.length co12] 45 (0, 0)) (by refine zP16 ?_; refine blk_far ?_ NB396_414.out _; refine zP16 ?_; refine blk_far ?_ NB396_414.out _; refine zP16 ?_; refine blk_far ?_ NB396_414.out _; refine zP16 ?_; exact BK396.out) hb); have n7_ := Aside0.mk (blk_below (g := gb405) (o := .cells #[.string t397, .slice Ao17 t398.length co17, .slice Ao18 t401.length co18] 45 (0, 0)) (by refine zP16 ?_; refine blk_far ?_ NB405_414.out _; refine zP16 ?_; refine blk_far ?_ NB405_414.out _; refine zP16 ?_; refine blk_far ?_ NB405_414.out _; refine zP16 ?_; exact BK405.out) hb); have n8_ := Aside0.mk (blk_below (g := gb414) (o := .cells #[.string t406, .slice Ao25 t407.length co25, .slice Ao26 t410.length co26] 45 (0, 0)) (by refine zP16 ?_; refine blk_put (cs := #[.string t406, .slice Ao25 t407.length co25, .slice none 0 0]) ?_ 2 _ rfl; refine zP16 ?_; refine blk_put (cs := #[.string t406, .slice none 0 0, .slice none 0 0]) ?_ 1 _ rfl; refine zP16 ?_; refine blk_put (cs := #[.string (⟨#[]⟩ : ByteArray), .slice none 0 0, .slice none 0 0]) ?_ 0 _ rfl; refine zP16 ?_; exact BK414.out) hb); have n9_ := Aside0.mk (below_step (zB16_3) hb); clear HO391; clear HO394; clear HO400; clear HO403; clear HO409; clear HO412; clear BK396; clear BK405; clear BK414; clear HB; have HO391 := n0_; have HO394 := n1_; have HO400 := n2_; have HO403 := n3_; have HO409 := n4_; have HO412 := n5_; have BK396 := n6_; have BK405 := n7_; have BK414 := n8_; have HB := n9_; clear n0_ n1_ n2_ n3_ n4_ n5_ n6_ n7_ n8_ n9_; (try clear hb); (try clear hb2); (try clear hk); (try clear hi)))
  go_meet
  case rel => exact ⟨_, (!t415), (by first | rfl | (simp; done) | (simp [*]; done)), H', ⟨by first | omega | exact Nat.le_refl _⟩, ⟨by (with_reducible repeat (first | apply Kd.R_alloc | apply Kd.R_drewN | apply Kd.R_drew)); exact Kd.R_mono HO391.out (fun _ hk => ⟨hk.1.2, hk.2⟩)⟩, ⟨by (with_reducible repeat (first | apply Kd.R_alloc | apply Kd.R_drewN | apply Kd.R_drew)); exact Kd.R_mono HO394.out (fun _ hk => ⟨hk.1.2, hk.2⟩)⟩, ⟨by (with_reducible repeat (first | apply Kd.R_alloc | apply Kd.R_drewN | apply Kd.R_drew)); exact Kd.R_mono HO400.out (fun _ hk => ⟨hk.1.2, hk.2⟩)⟩, ⟨by (with_reducible repeat (first | apply Kd.R_alloc | apply Kd.R_drewN | apply Kd.R_drew)); exact Kd.R_mono HO403.out (fun _ hk => ⟨hk.1.2, hk.2⟩)⟩, ⟨by (with_reducible repeat (first | apply Kd.R_alloc | apply Kd.R_drewN | apply Kd.R_drew)); exact Kd.R_mono HO409.out (fun _ hk => ⟨hk.1.2, hk.2⟩)⟩, ⟨by (with_reducible repeat (first | apply Kd.R_alloc | apply Kd.R_drewN | apply Kd.R_drew)); exact Kd.R_mono HO412.out (fun _ hk => ⟨hk.1.2, hk.2⟩)⟩, ⟨zK16 BK396.out⟩, ⟨zK16 BK405.out⟩, ⟨zK16 BK414.out⟩, ⟨zB16_3⟩⟩
 case rest =>
  clear HC7
  try clear c1
  try clear c2
  try clear p2
  try clear c3
  try clear c4
  try clear c5
  try clear c11
  try clear c15
  try clear c22
  try clear c23
  try clear c27
  try clear c27b0
  try clear c27b1
  try clear c27b2
  try clear c29
  try clear c30
  try clear c32
  try clear c34
  try clear hcz10_0
  try clear hcz10_1
  try clear hcz10_2
  try clear hcz16_0
  try clear hcz16_1
  try clear hcz16_2
  try clear hcz19_0
  try clear hcz19_1
  try clear hcz19_2
  try clear hcz24_0
  try clear hcz24_1
  try clear hcz24_2
  try clear hcz31_0
  try clear hcz31_1
  try clear hcz31_2
  try clear hcz33_0
  try clear hcz33_1
  try clear hcz33_2
  try clear hfz10_0
  try clear hfz10_1
  try clear hfz10_2
  try clear hfz16_0
  try clear hfz16_1
  try clear hfz16_2
  try clear hfz19_0
  try clear hfz19_1
  try clear hfz19_2
  try clear hfz24_0
  try clear hfz24_1
  try clear hfz24_2
  try clear hfz31_0
  try clear hfz31_1
  try clear hfz31_2
  try clear hfz33_0
  try clear hfz33_1
  try clear hfz33_2
  obtain ⟨kq, x41_6, rfl, HA, HJ6, HO_397001, HO_397002, HO_406001, HO_406002, HO_415001, HO_415002, BK396, BK405, BK414, HB⟩ := hcut
  cases kq with
  | zero => exact absurd HA.out (by simp [laws_FnMoved.j0])
  | succ kj6 =>
   have H := HA.out
   clear HA
   simp only [laws_FnMoved.j0] at H
   by_cases c35 : x41_6 = true
   ·subst c35
    have H1 : (some false) = some r := by rw [if_pos rfl] at H; exact H
    clear H
    have H := H1
    clear H1
    obtain rfl := Option.some.inj H
    go_wp2
    go_ret
    exact ⟨zE16, zB16_3⟩
   replace c35 := Bool.eq_false_iff.mpr c35
   subst c35
   have H1 : (if t404 = true then ((impl_Moved.f kj6 t397 t398 t401 (wrap64 (-t395))).bind fun bt416 => (laws_FnMoved.l0 kj6 bt416.2.2.2 0 t388 t389 t392 t397 t398 t401 bt416.1 bt416.2.1 bt416.2.2.1)) else (some (t397.toList == ([] : List UInt8)))) = some r := by rw [if_neg (show ¬ (false = true) by decide)] at H; exact H
   clear H
   have H := H1
   clear H1
   by_cases c36 : t404 = true
   rotate_left
   ·replace c36 := Bool.eq_false_iff.mpr c36
    subst c36
    have H1 : (some (t397.toList == ([] : List UInt8))) = some r := by rw [if_neg (show ¬ (false = true) by decide)] at H; exact H
    clear H
    have H := H1
    clear H1
    obtain rfl := Option.some.inj H
    have hnb123 := NB405_396.out
    have hnc123 := NB396_405.out
    have hnb124 := NB405_414.out
    have hnc124 := NB414_405.out
    obtain ⟨hcz125_0, hcz125_1, hcz125_2, hfz125_0, hfz125_1, hfz125_2⟩ := zc16_3 (w := wc) BK405.out
    go_wp2
    go_ret
    exact ⟨zE16, zB16_3⟩
   subst c36
   have H1 : ((impl_Moved.f kj6 t397 t398 t401 (wrap64 (-t395))).bind fun bt416 => (laws_FnMoved.l0 kj6 bt416.2.2.2 0 t388 t389 t392 t397 t398 t401 bt416.1 bt416.2.1 bt416.2.2.1)) = some r := by rw [if_pos rfl] at H; exact H
   clear H
   have H := H1
   clear H1
   replace H := Option.bind_eq_some_iff.mp H
   obtain ⟨⟨t416, t417, t420, t423⟩, A370, H⟩ := H
   replace H : (laws_FnMoved.l0 kj6 t423 0 t388 t389 t392 t397 t398 t401 t416 t417 t420) = some r := H
   have A37 := Aside0.mk A370
   clear A370
   have H' := Aside0.mk H
   clear H
   have hnb38 := NB405_396.out
   have hnc38 := NB396_405.out
   have hnb39 := NB405_414.out
   have hnc39 := NB414_405.out
   obtain ⟨hcz40_0, hcz40_1, hcz40_2, hfz40_0, hfz40_1, hfz40_2⟩ := zc16_3 (w := wc) BK405.out
   go_wp2_with (first | ((with_reducible refine gate_callee (f := 50) rfl ?_); refine goesL_ (some 51) rfl rfl Try.func50 (by kernel_rfl) rfl #[.agg #[.string t397, .slice Ao17 t398.length co17, .slice Ao18 t401.length co18], .int .i64 (wrap64 (-t395))] rfl zT16 ?_; (with_reducible refine (impl_Moved.calls kj6 t397 _ _ t398 _ _ t401 (wrap64 (-t395)) t416 t417 t420 t423 _ ?side1 ?side2 ?side3 ?side4 A37.out).mono ?_); (case side1 => exact zC16 (Kd.R_reads' HO_406001.out).2.2); (case side2 => exact (Kd.R_reads' HO_406001.out).2.1); (case side3 => exact zC16 (Kd.R_reads' HO_406002.out).2.2); (case side4 => exact (Kd.R_reads' HO_406002.out).2.1); rintro e w41 ⟨v418, v421, rfl, ho0, ho1, hb⟩; refine ⟨_, rfl, ?_⟩; have n0_ := Aside0.mk (Kd.R_elder' (zR16 HO_397001.out) (Kd.R_base ho0) hb); have n1_ := Aside0.mk (Kd.R_elder' (zR16 HO_397002.out) (Kd.R_base ho1) hb); have n2_ := Aside0.mk (Kd.R_elder' (zR16 HO_406001.out) (Kd.R_base ho0) hb); have n3_ := Aside0.mk (Kd.R_elder' (zR16 HO_406002.out) (Kd.R_base ho1) hb); have n4_ := Aside0.mk (Kd.R_elder' (zR16 HO_415001.out) (Kd.R_base ho0) hb); have n5_ := Aside0.mk (Kd.R_elder' (zR16 HO_415002.out) (Kd.R_base ho1) hb); have n6_ := Aside0.mk (Kd.R_lower (Kd.R_new' (Kd.R_new' (Kd.R_new' ho0 (Kd.R_lt (zR16 HO_397001.out))) (Kd.R_lt (zR16 HO_406001.out))) (Kd.R_lt (zR16 HO_415001.out))) (below_size (zB16_3))); have n7_ := Aside0.mk (Kd.R_lower (Kd.R_new' (Kd.R_new' (Kd.R_new' ho1 (Kd.R_lt (zR16 HO_397002.out))) (Kd.R_lt (zR16 HO_406002.out))) (Kd.R_lt (zR16 HO_415002.out))) (below_size (zB16_3))); have n8_ := Aside0.mk (zb16 BK396.out hb); have n9_ := Aside0.mk (zb16 BK405.out hb); have n10_ := Aside0.mk (zb16 BK414.out hb); have n11_ := Aside0.mk (below_step (zB16_3) hb); clear HO_397001; clear HO_397002; clear HO_406001; clear HO_406002; clear HO_415001; clear HO_415002; clear BK396; clear BK405; clear BK414; clear HB; have HO_397001 := n0_; have HO_397002 := n1_; have HO_406001 := n2_; have HO_406002 := n3_; have HO_415001 := n4_; have HO_415002 := n5_; have HO419 := n6_; have HO422 := n7_; have BK396 := n8_; have BK405 := n9_; have BK414 := n10_; have HB := n11_; clear n0_ n1_ n2_ n3_ n4_ n5_ n6_ n7_ n8_ n9_ n10_ n11_; (try clear hb); (try clear hb2); (try clear hk); (try clear hi); (try clear ho0); (try clear ho1)) | ((with_reducible refine gate_dst (N := 9) rfl ?_); (try (refine gate_guard (by rfl) ?_; dsimp only)); refine box_event ?hg (N := 9) ?hd (cs := #[.string (⟨#[]⟩ : ByteArray), .slice none 0 0, .slice none 0 0]) (t := 45) ?hr ?_; (case hd => rfl); (case hg => rfl); (case hr => first | (go_simp; done) | (go_simp; rfl)); intro gb424 hg w42 hbox hb; have n0_ := Aside0.mk (Kd.R_below (zR16 HO_397001.out) hb); have n1_ := Aside0.mk (Kd.R_below (zR16 HO_397002.out) hb); have n2_ := Aside0.mk (Kd.R_below (zR16 HO_406001.out) hb); have n3_ := Aside0.mk (Kd.R_below (zR16 HO_406002.out) hb); have n4_ := Aside0.mk (Kd.R_below (zR16 HO_415001.out) hb); have n5_ := Aside0.mk (Kd.R_below (zR16 HO_415002.out) hb); have n6_ := Aside0.mk (Kd.R_below (zR16 HO419.out) hb); have n7_ := Aside0.mk (Kd.R_below (zR16 HO422.out) hb); have n8_ := Aside0.mk (zb16 BK396.out hb); have n9_ := Aside0.mk (zb16 BK405.out hb); have n10_ := Aside0.mk (zb16 BK414.out hb); have n11_ := Aside0.mk (below_step (zB16_3) hb); have n12_ := Aside0.mk (hbox); have n13_ := Aside0.mk ((by rw [hg]; exact (below_size (zB16_3)) : w.heap.size ≤ gb424)); have n14_ := Aside0.mk ((by rw [hg]; exact (below_size (zB16_3)) : w.heap.size ≤ gb424)); have n15_ := Aside0.mk ((zn16 BK396.out hg : gb396 ≠ gb424)); have n16_ := Aside0.mk ((zm16 BK396.out hg : gb424 ≠ gb396)); have n17_ := Aside0.mk ((zn16 BK405.out hg : gb405 ≠ gb424)); have n18_ := Aside0.mk ((zm16 BK405.out hg : gb424 ≠ gb405)); have n19_ := Aside0.mk ((zn16 BK414.out hg : gb414 ≠ gb424)); have n20_ := Aside0.mk ((zm16 BK414.out hg : gb424 ≠ gb414)); clear HO_397001; clear HO_397002; clear HO_406001; clear HO_406002; clear HO_415001; clear HO_415002; clear HO419; clear HO422; clear BK396; clear BK405; clear BK414; clear HB; have HO_397001 := n0_; have HO_397002 := n1_; have HO_406001 := n2_; have HO_406002 := n3_; have HO_415001 := n4_; have HO_415002 := n5_; have HO419 := n6_; have HO422 := n7_; have BK396 := n8_; have BK405 := n9_; have BK414 := n10_; have HB := n11_; have BK424 := n12_; have GW424 := n13_; have GE424 := n14_; have NB396_424 := n15_; have NB424_396 := n16_; have NB405_424 := n17_; have NB424_405 := n18_; have NB414_424 := n19_; have NB424_414 := n20_; clear n0_ n1_ n2_ n3_ n4_ n5_ n6_ n7_ n8_ n9_ n10_ n11_ n12_ n13_ n14_ n15_ n16_ n17_ n18_ n19_ n20_; clear hb hbox hg; have hnb43 := NB424_396.out; have hnc43 := NB396_424.out; have hnb44 := NB424_405.out; have hnc44 := NB405_424.out; have hnb45 := NB424_414.out; have hnc45 := NB414_424.out; obtain ⟨hcz46_0, hcz46_1, hcz46_2, hfz46_0, hfz46_1, hfz46_2⟩ := zc16_3 (w := w42) BK424.out; obtain ⟨Ao47, co47, eo47⟩ := Kd.R_slice HO419.out; subst eo47; obtain ⟨Ao48, co48, eo48⟩ := Kd.R_slice HO422.out; subst eo48))
   go_loopg [11] kj6 (fun kq v11 w' => ∃ (x11_2 : Int), v11 = .int .i64 x11_2 ∧ Aside0 (laws_FnMoved.l0 kq t423 x11_2 t388 t389 t392 t397 t398 t401 t416 t417 t420 = some r) ∧ Aside0 (kq ≤ kj6) ∧ Aside0 (Kd.R k52 52 w' w.heap.size (fun k_ => some k_ ≠ ((.slice Ao17 t398.length co17) : Value).ownBlock ∧ some k_ ≠ ((.slice Ao25 t407.length co25) : Value).ownBlock ∧ some k_ ≠ ((.slice Ao47 t417.length co47) : Value).ownBlock) (.slice Ao11 t389.length co11) t389) ∧ Aside0 (Kd.R k56 56 w' w.heap.size (fun k_ => some k_ ≠ ((.slice Ao18 t401.length co18) : Value).ownBlock ∧ some k_ ≠ ((.slice Ao26 t410.length co26) : Value).ownBlock ∧ some k_ ≠ ((.slice Ao48 t420.length co48) : Value).ownBlock) (.slice Ao12 t392.length co12) t392) ∧ Aside0 (Kd.R k52 52 w' w.heap.size (fun k_ => some k_ ≠ ((.slice Ao11 t389.length co11) : Value).ownBlock ∧ some k_ ≠ ((.slice Ao25 t407.length co25) : Value).ownBlock ∧ some k_ ≠ ((.slice Ao47 t417.length co47) : Value).ownBlock) (.slice Ao17 t398.length co17) t398) ∧ Aside0 (Kd.R k56 56 w' w.heap.size (fun k_ => some k_ ≠ ((.slice Ao12 t392.length co12) : Value).ownBlock ∧ some k_ ≠ ((.slice Ao26 t410.length co26) : Value).ownBlock ∧ some k_ ≠ ((.slice Ao48 t420.length co48) : Value).ownBlock) (.slice Ao18 t401.length co18) t401) ∧ Aside0 (Kd.R k52 52 w' w.heap.size (fun k_ => some k_ ≠ ((.slice Ao11 t389.length co11) : Value).ownBlock ∧ some k_ ≠ ((.slice Ao17 t398.length co17) : Value).ownBlock ∧ some k_ ≠ ((.slice Ao47 t417.length co47) : Value).ownBlock) (.slice Ao25 t407.length co25) t407) ∧ Aside0 (Kd.R k56 56 w' w.heap.size (fun k_ => some k_ ≠ ((.slice Ao12 t392.length co12) : Value).ownBlock ∧ some k_ ≠ ((.slice Ao18 t401.length co18) : Value).ownBlock ∧ some k_ ≠ ((.slice Ao48 t420.length co48) : Value).ownBlock) (.slice Ao26 t410.length co26) t410) ∧ Aside0 (Kd.R k52 52 w' w.heap.size (fun k_ => some k_ ≠ ((.slice Ao11 t389.length co11) : Value).ownBlock ∧ some k_ ≠ ((.slice Ao17 t398.length co17) : Value).ownBlock ∧ some k_ ≠ ((.slice Ao25 t407.length co25) : Value).ownBlock) (.slice Ao47 t417.length co47) t417) ∧ Aside0 (Kd.R k56 56 w' w.heap.size (fun k_ => some k_ ≠ ((.slice Ao12 t392.length co12) : Value).ownBlock ∧ some k_ ≠ ((.slice Ao18 t401.length co18) : Value).ownBlock ∧ some k_ ≠ ((.slice Ao26 t410.length co26) : Value).ownBlock) (.slice Ao48 t420.length co48) t420) ∧ Aside0 (w'.heap[gb396]? = some (.cells #[.string t388, (.slice Ao11 t389.length co11), (.slice Ao12 t392.length co12)] 45 (0, 0))) ∧ Aside0 (w'.heap[gb405]? = some (.cells #[.string t397, (.slice Ao17 t398.length co17), (.slice Ao18 t401.length co18)] 45 (0, 0))) ∧ Aside0 (w'.heap[gb414]? = some (.cells #[.string t406, (.slice Ao25 t407.length co25), (.slice Ao26 t410.length co26)] 45 (0, 0))) ∧ Aside0 (w'.heap[gb424]? = some (.cells #[.string t416, (.slice Ao47 t417.length co47), (.slice Ao48 t420.length co48)] 45 (0, 0))) ∧ Aside0 (Below w.heap.size w w'))
   case atStart => exact ⟨(0), (by first | rfl | (simp; done) | (simp [*]; done)), H', ⟨Nat.le_refl _⟩, ⟨by (with_reducible repeat (first | apply Kd.R_alloc | apply Kd.R_drewN | apply Kd.R_drew)); exact Kd.R_mono (Kd.R_far (p := ⟨gb424, 2, none⟩) (Kd.R_far (p := ⟨gb424, 1, none⟩) (Kd.R_far (p := ⟨gb424, 0, none⟩) (Kd.R_types HO_397001.out BK424.out (by decide)) (fun _ hk => hk.2) (.string t416)) (fun _ hk => hk.2) (.slice Ao47 t417.length co47)) (fun _ hk => hk.2) (.slice Ao48 t420.length co48)) (fun _ hk => ⟨hk.1.1.1, ⟨hk.1.1.2, hk.1.2⟩⟩)⟩, ⟨by (with_reducible repeat (first | apply Kd.R_alloc | apply Kd.R_drewN | apply Kd.R_drew)); exact Kd.R_mono (Kd.R_far (p := ⟨gb424, 2, none⟩) (Kd.R_far (p := ⟨gb424, 1, none⟩) (Kd.R_far (p := ⟨gb424, 0, none⟩) (Kd.R_types HO_397002.out BK424.out (by decide)) (fun _ hk => hk.2) (.string t416)) (fun _ hk => hk.2) (.slice Ao47 t417.length co47)) (fun _ hk => hk.2) (.slice Ao48 t420.length co48)) (fun _ hk => ⟨hk.1.1.1, ⟨hk.1.1.2, hk.1.2⟩⟩)⟩, ⟨by (with_reducible repeat (first | apply Kd.R_alloc | apply Kd.R_drewN | apply Kd.R_drew)); exact Kd.R_mono (Kd.R_far (p := ⟨gb424, 2, none⟩) (Kd.R_far (p := ⟨gb424, 1, none⟩) (Kd.R_far (p := ⟨gb424, 0, none⟩) (Kd.R_types HO_406001.out BK424.out (by decide)) (fun _ hk => hk.2) (.string t416)) (fun _ hk => hk.2) (.slice Ao47 t417.length co47)) (fun _ hk => hk.2) (.slice Ao48 t420.length co48)) (fun _ hk => ⟨hk.1.1.1, ⟨hk.1.1.2, hk.1.2⟩⟩)⟩, ⟨by (with_reducible repeat (first | apply Kd.R_alloc | apply Kd.R_drewN | apply Kd.R_drew)); exact Kd.R_mono (Kd.R_far (p := ⟨gb424, 2, none⟩) (Kd.R_far (p := ⟨gb424, 1, none⟩) (Kd.R_far (p := ⟨gb424, 0, none⟩) (Kd.R_types HO_406002.out BK424.out (by decide)) (fun _ hk => hk.2) (.string t416)) (fun _ hk => hk.2) (.slice Ao47 t417.length co47)) (fun _ hk => hk.2) (.slice Ao48 t420.length co48)) (fun _ hk => ⟨hk.1.1.1, ⟨hk.1.1.2, hk.1.2⟩⟩)⟩, ⟨by (with_reducible repeat (first | apply Kd.R_alloc | apply Kd.R_drewN | apply Kd.R_drew)); exact Kd.R_mono (Kd.R_far (p := ⟨gb424, 2, none⟩) (Kd.R_far (p := ⟨gb424, 1, none⟩) (Kd.R_far (p := ⟨gb424, 0, none⟩) (Kd.R_types HO_415001.out BK424.out (by decide)) (fun _ hk => hk.2) (.string t416)) (fun _ hk => hk.2) (.slice Ao47 t417.length co47)) (fun _ hk => hk.2) (.slice Ao48 t420.length co48)) (fun _ hk => ⟨hk.1.1.1, ⟨hk.1.1.2, hk.1.2⟩⟩)⟩, ⟨by (with_reducible repeat (first | apply Kd.R_alloc | apply Kd.R_drewN | apply Kd.R_drew)); exact Kd.R_mono (Kd.R_far (p := ⟨gb424, 2, none⟩) (Kd.R_far (p := ⟨gb424, 1, none⟩) (Kd.R_far (p := ⟨gb424, 0, none⟩) (Kd.R_types HO_415002.out BK424.out (by decide)) (fun _ hk => hk.2) (.string t416)) (fun _ hk => hk.2) (.slice Ao47 t417.length co47)) (fun _ hk => hk.2) (.slice Ao48 t420.length co48)) (fun _ hk => ⟨hk.1.1.1, ⟨hk.1.1.2, hk.1.2⟩⟩)⟩, ⟨by (with_reducible repeat (first | apply Kd.R_alloc | apply Kd.R_drewN | apply Kd.R_drew)); exact Kd.R_mono (Kd.R_far (p := ⟨gb424, 2, none⟩) (Kd.R_far (p := ⟨gb424, 1, none⟩) (Kd.R_far (p := ⟨gb424, 0, none⟩) (Kd.R_types HO419.out BK424.out (by decide)) (fun _ hk => hk.2) (.string t416)) (fun _ hk => hk.2) (.slice Ao47 t417.length co47)) (fun _ hk => hk.2) (.slice Ao48 t420.length co48)) (fun _ hk => ⟨hk.1.1.1.2, ⟨hk.1.1.2, hk.1.2⟩⟩)⟩, ⟨by (with_reducible repeat (first | apply Kd.R_alloc | apply Kd.R_drewN | apply Kd.R_drew)); exact Kd.R_mono (Kd.R_far (p := ⟨gb424, 2, none⟩) (Kd.R_far (p := ⟨gb424, 1, none⟩) (Kd.R_far (p := ⟨gb424, 0, none⟩) (Kd.R_types HO422.out BK424.out (by decide)) (fun _ hk => hk.2) (.string t416)) (fun _ hk => hk.2) (.slice Ao47 t417.length co47)) (fun _ hk => hk.2) (.slice Ao48 t420.length co48)) (fun _ hk => ⟨hk.1.1.1.2, ⟨hk.1.1.2, hk.1.2⟩⟩)⟩, ⟨by refine zP16 ?_; refine blk_far ?_ NB396_424.out _; refine zP16 ?_; refine blk_far ?_ NB396_424.out _; refine zP16 ?_; refine blk_far ?_ NB396_424.out _; refine zP16 ?_; exact BK396.out⟩, ⟨by refine zP16 ?_; refine blk_far ?_ NB405_424.out _; refine zP16 ?_; refine blk_far ?_ NB405_424.out _; refine zP16 ?_; refine blk_far ?_ NB405_424.out _; refine zP16 ?_; exact BK405.out⟩, ⟨by refine zP16 ?_; refine blk_far ?_ NB414_424.out _; refine zP16 ?_; refine blk_far ?_ NB414_424.out _; refine zP16 ?_; refine blk_far ?_ NB414_424.out _; refine zP16 ?_; exact BK414.out⟩, ⟨by refine zP16 ?_; refine blk_put (cs := #[.string t416, .slice Ao47 t417.length co47, .slice none 0 0]) ?_ 2 _ rfl; refine zP16 ?_; refine blk_put (cs := #[.string t416, .slice none 0 0, .slice none 0 0]) ?_ 1 _ rfl; refine zP16 ?_; refine blk_put (cs := #[.string (⟨#[]⟩ : ByteArray), .slice none 0 0, .slice none 0 0]) ?_ 0 _ rfl; refine zP16 ?_; exact BK424.out⟩, ⟨zB16_4⟩⟩
   case round =>
    clear H'
    try clear c1
    try clear c2
    try clear p2
    try clear c3
    try clear c4
    try clear c5
    try clear p6
    try clear c11
    try clear c15
    try clear c22
    try clear c23
    try clear c27
    try clear c27b0
    try clear c27b1
    try clear c27b2
    try clear c29
    try clear c30
    try clear c32
    try clear c34
    try clear c35
    try clear c36
    try clear c38
    try clear c39
    try clear c43
    try clear c44
    try clear c45
    try clear hcz10_0
    try clear hcz10_1
    try clear hcz10_2
    try clear hcz16_0
    try clear hcz16_1
    try clear hcz16_2
    try clear hcz19_0
    try clear hcz19_1
    try clear hcz19_2
    try clear hcz24_0
    try clear hcz24_1
    try clear hcz24_2
    try clear hcz31_0
    try clear hcz31_1
    try clear hcz31_2
    try clear hcz33_0
    try clear hcz33_1
    try clear hcz33_2
    try clear hcz40_0
    try clear hcz40_1
    try clear hcz40_2
    try clear hcz46_0
    try clear hcz46_1
    try clear hcz46_2
    try clear hfz10_0
    try clear hfz10_1
    try clear hfz10_2
    try clear hfz16_0
    try clear hfz16_1
    try clear hfz16_2
    try clear hfz19_0
    try clear hfz19_1
    try clear hfz19_2
    try clear hfz24_0
    try clear hfz24_1
    try clear hfz24_2
    try clear hfz31_0
    try clear hfz31_1
    try clear hfz31_2
    try clear hfz33_0
    try clear hfz33_1
    try clear hfz33_2
    try clear hfz40_0
    try clear hfz40_1
    try clear hfz40_2
    try clear hfz46_0
    try clear hfz46_1
    try clear hfz46_2
    try clear p2
    obtain ⟨x11_2, rfl, HA, HK2, HO_397001, HO_397002, HO_406001, HO_406002, HO_415001, HO_415002, HO_425001, HO_425002, BK396, BK405, BK414, BK424, HB⟩ := hrel
    cases gk with
    | zero => exact absurd HA.out (by simp [laws_FnMoved.l0])
    | succ k2 =>
     have H := HA.out
     clear HA
     simp only [laws_FnMoved.l0] at H
     by_cases c49 : x11_2 < (t389.length : Int)
     rotate_left
     ·rw [if_neg c49] at H
      have c49b0 : decide (x11_2 < (t389.length : Int)) = false := decide_eq_false c49
      clear c49
      by_cases c97 : t423 = true
      rotate_left
      ·replace c97 := Bool.eq_false_iff.mpr c97
       subst c97
       have H1 : (some false) = some r := by rw [if_neg (show ¬ (false = true) by decide)] at H; exact H
       clear H
       have H := H1
       clear H1
       obtain rfl := Option.some.inj H
       have hnb119 := NB396_405.out
       have hnc119 := NB405_396.out
       have hnb120 := NB396_414.out
       have hnc120 := NB414_396.out
       have hnb121 := NB396_424.out
       have hnc121 := NB424_396.out
       obtain ⟨hcz122_0, hcz122_1, hcz122_2, hfz122_0, hfz122_1, hfz122_2⟩ := zc16_3 (w := wr) BK396.out
       go_wp2
       go_ret
       exact ⟨zE16, zB16_4⟩
      subst c97
      have H1 : ((laws_samePart.f k2 t416 t417 t420 t388 t389 t392).bind fun t429 => (if t429 = true then (some ((t398.length : Int) == (t389.length : Int))) else (some false))) = some r := by rw [if_pos rfl] at H; exact H
      clear H
      have H := H1
      clear H1
      replace H := Option.bind_eq_some_iff.mp H
      obtain ⟨t429, A980, H⟩ := H
      replace H : (if t429 = true then (some ((t398.length : Int) == (t389.length : Int))) else (some false)) = some r := H
      have A98 := Aside0.mk A980
      clear A980
      by_cases c99 : t429 = true
      rotate_left
      ·replace c99 := Bool.eq_false_iff.mpr c99
       subst c99
       have H1 : (some false) = some r := by rw [if_neg (show ¬ (false = true) by decide)] at H; exact H
       clear H
       have H := H1
       clear H1
       obtain rfl := Option.some.inj H
       have hnb111 := NB396_405.out
       have hnc111 := NB405_396.out
       have hnb112 := NB396_414.out
       have hnc112 := NB414_396.out
       have hnb113 := NB396_424.out
       have hnc113 := NB424_396.out
       obtain ⟨hcz114_0, hcz114_1, hcz114_2, hfz114_0, hfz114_1, hfz114_2⟩ := zc16_3 (w := wr) BK396.out
       have hnb115 := NB424_405.out
       have hnc115 := NB405_424.out
       have hnb116 := NB424_414.out
       have hnc116 := NB414_424.out
       obtain ⟨hcz117_0, hcz117_1, hcz117_2, hfz117_0, hfz117_1, hfz117_2⟩ := zc16_3 (w := wr) BK424.out
       go_wp2_with (first | (go_at_call 52; (with_reducible refine (laws_samePart.calls k2 t416 _ _ t417 _ _ t420 t388 _ _ t389 _ _ t392 false _ ?side1 ?side2 ?side3 ?side4 ?side5 ?side6 ?side7 ?side8 A98.out).mono ?_); (case side1 => exact zC16 (Kd.R_reads' HO_425001.out).2.2); (case side2 => exact (Kd.R_reads' HO_425001.out).2.1); (case side3 => exact zC16 (Kd.R_reads' HO_425002.out).2.2); (case side4 => exact (Kd.R_reads' HO_425002.out).2.1); (case side5 => exact zC16 (Kd.R_reads' HO_397001.out).2.2); (case side6 => exact (Kd.R_reads' HO_397001.out).2.1); (case side7 => exact zC16 (Kd.R_reads' HO_397002.out).2.2); (case side8 => exact (Kd.R_reads' HO_397002.out).2.1); rintro e w118 ⟨rfl, hb⟩; have n0_ := Aside0.mk (Kd.R_below (zR16 HO_397001.out) hb); have n1_ := Aside0.mk (Kd.R_below (zR16 HO_397002.out) hb); have n2_ := Aside0.mk (Kd.R_below (zR16 HO_406001.out) hb); have n3_ := Aside0.mk (Kd.R_below (zR16 HO_406002.out) hb); have n4_ := Aside0.mk (Kd.R_below (zR16 HO_415001.out) hb); have n5_ := Aside0.mk (Kd.R_below (zR16 HO_415002.out) hb); have n6_ := Aside0.mk (Kd.R_below (zR16 HO_425001.out) hb); have n7_ := Aside0.mk (Kd.R_below (zR16 HO_425002.out) hb); have n8_ := Aside0.mk (zb16 BK396.out hb); have n9_ := Aside0.mk (zb16 BK405.out hb); have n10_ := Aside0.mk (zb16 BK414.out hb); have n11_ := Aside0.mk (zb16 BK424.out hb); have n12_ := Aside0.mk (below_step (zB16_4) hb); clear HO_397001; clear HO_397002; clear HO_406001; clear HO_406002; clear HO_415001; clear HO_415002; clear HO_425001; clear HO_425002; clear BK396; clear BK405; clear BK414; clear BK424; clear HB; have HO_397001 := n0_; have HO_397002 := n1_; have HO_406001 := n2_; have HO_406002 := n3_; have HO_415001 := n4_; have HO_415002 := n5_; have HO_425001 := n6_; have HO_425002 := n7_; have BK396 := n8_; have BK405 := n9_; have BK414 := n10_; have BK424 := n11_; have HB := n12_; clear n0_ n1_ n2_ n3_ n4_ n5_ n6_ n7_ n8_ n9_ n10_ n11_ n12_; (try clear hb); (try clear hb2); (try clear hk); (try clear hi)))
       go_ret
       exact ⟨zE16, zB16_4⟩
      subst c99
      have H1 : (some ((t398.length : Int) == (t389.length : Int))) = some r := by rw [if_pos rfl] at H; exact H
      clear H
      have H := H1
      clear H1
      obtain rfl := Option.some.inj H
      have hnb100 := NB396_405.out
      have hnc100 := NB405_396.out
      have hnb101 := NB396_414.out
      have hnc101 := NB414_396.out
      have hnb102 := NB396_424.out
      have hnc102 := NB424_396.out
      obtain ⟨hcz103_0, hcz103_1, hcz103_2, hfz103_0, hfz103_1, hfz103_2⟩ := zc16_3 (w := wr) BK396.out
      have hnb104 := NB424_405.out
      have hnc104 := NB405_424.out
      have hnb105 := NB424_414.out
      have hnc105 := NB414_424.out
      obtain ⟨hcz106_0, hcz106_1, hcz106_2, hfz106_0, hfz106_1, hfz106_2⟩ := zc16_3 (w := wr) BK424.out
      go_wp2_with (first | (go_at_call 52; (with_reducible refine (laws_samePart.calls k2 t416 _ _ t417 _ _ t420 t388 _ _ t389 _ _ t392 true _ ?side1 ?side2 ?side3 ?side4 ?side5 ?side6 ?side7 ?side8 A98.out).mono ?_); (case side1 => exact zC16 (Kd.R_reads' HO_425001.out).2.2); (case side2 => exact (Kd.R_reads' HO_425001.out).2.1); (case side3 => exact zC16 (Kd.R_reads' HO_425002.out).2.2); (case side4 => exact (Kd.R_reads' HO_425002.out).2.1); (case side5 => exact zC16 (Kd.R_reads' HO_397001.out).2.2); (case side6 => exact (Kd.R_reads' HO_397001.out).2.1); (case side7 => exact zC16 (Kd.R_reads' HO_397002.out).2.2); (case side8 => exact (Kd.R_reads' HO_397002.out).2.1); rintro e w107 ⟨rfl, hb⟩; have n0_ := Aside0.mk (Kd.R_below (zR16 HO_397001.out) hb); have n1_ := Aside0.mk (Kd.R_below (zR16 HO_397002.out) hb); have n2_ := Aside0.mk (Kd.R_below (zR16 HO_406001.out) hb); have n3_ := Aside0.mk (Kd.R_below (zR16 HO_406002.out) hb); have n4_ := Aside0.mk (Kd.R_below (zR16 HO_415001.out) hb); have n5_ := Aside0.mk (Kd.R_below (zR16 HO_415002.out) hb); have n6_ := Aside0.mk (Kd.R_below (zR16 HO_425001.out) hb); have n7_ := Aside0.mk (Kd.R_below (zR16 HO_425002.out) hb); have n8_ := Aside0.mk (zb16 BK396.out hb); have n9_ := Aside0.mk (zb16 BK405.out hb); have n10_ := Aside0.mk (zb16 BK414.out hb); have n11_ := Aside0.mk (zb16 BK424.out hb); have n12_ := Aside0.mk (below_step (zB16_4) hb); clear HO_397001; clear HO_397002; clear HO_406001; clear HO_406002; clear HO_415001; clear HO_415002; clear HO_425001; clear HO_425002; clear BK396; clear BK405; clear BK414; clear BK424; clear HB; have HO_397001 := n0_; have HO_397002 := n1_; have HO_406001 := n2_; have HO_406002 := n3_; have HO_415001 := n4_; have HO_415002 := n5_; have HO_425001 := n6_; have HO_425002 := n7_; have BK396 := n8_; have BK405 := n9_; have BK414 := n10_; have BK424 := n11_; have HB := n12_; clear n0_ n1_ n2_ n3_ n4_ n5_ n6_ n7_ n8_ n9_ n10_ n11_ n12_; (try clear hb); (try clear hb2); (try clear hk); (try clear hi); have hnb108 := NB405_414.out; have hnc108 := NB414_405.out; obtain ⟨hcz109_0, hcz109_1, hcz109_2, hfz109_0, hfz109_1, hfz109_2⟩ := zc16_3 (w := w107) BK405.out; obtain ⟨hcz110_0, hcz110_1, hcz110_2, hfz110_0, hfz110_1, hfz110_2⟩ := zc16_3 (w := w107) BK396.out))
      go_ret
      exact ⟨zE16, zB16_4⟩
     rw [if_pos c49] at H
     have c49b0 : decide (x11_2 < (t389.length : Int)) = true := decide_eq_true c49
     clear c49
     by_cases c50 : 0 ≤ x11_2
     rotate_left
     ·rw [if_neg c50] at H
      exact absurd H (by simp)
     rw [if_pos c50] at H
     have c50b0 : decide (0 ≤ x11_2) = true := decide_eq_true c50
     clear c50
     by_cases c51 : x11_2 < (t398.length : Int)
     rotate_left
     ·rw [if_neg c51] at H
      exact absurd H (by simp)
     rw [if_pos c51] at H
     have c51b0 : decide (x11_2 < (t398.length : Int)) = true := decide_eq_true c51
     clear c51
     have HC52 := Aside0.mk H
     clear H
     have hnb53 := NB396_405.out
     have hnc53 := NB405_396.out
     have hnb54 := NB396_414.out
     have hnc54 := NB414_396.out
     have hnb55 := NB396_424.out
     have hnc55 := NB424_396.out
     obtain ⟨hcz56_0, hcz56_1, hcz56_2, hfz56_0, hfz56_1, hfz56_2⟩ := zc16_3 (w := wr) BK396.out
     try go_wp2
     have n0_ := Aside0.mk (Kd.R_drew HO_397001.out)
     have n1_ := Aside0.mk (Kd.R_drew HO_397002.out)
     have n2_ := Aside0.mk (Kd.R_drew HO_406001.out)
     have n3_ := Aside0.mk (Kd.R_drew HO_406002.out)
     have n4_ := Aside0.mk (Kd.R_drew HO_415001.out)
     have n5_ := Aside0.mk (Kd.R_drew HO_415002.out)
     have n6_ := Aside0.mk (Kd.R_drew HO_425001.out)
     have n7_ := Aside0.mk (Kd.R_drew HO_425002.out)
     have n8_ := Aside0.mk (blk_drew BK396.out)
     have n9_ := Aside0.mk (blk_drew BK405.out)
     have n10_ := Aside0.mk (blk_drew BK414.out)
     have n11_ := Aside0.mk (blk_drew BK424.out)
     have n12_ := Aside0.mk (below_drew1 HB.out)
     clear HO_397001 HO_397002 HO_406001 HO_406002 HO_415001 HO_415002 HO_425001 HO_425002 BK396 BK405 BK414 BK424 HB
     have HO_397001 := n0_
     have HO_397002 := n1_
     have HO_406001 := n2_
     have HO_406002 := n3_
     have HO_415001 := n4_
     have HO_415002 := n5_
     have HO_425001 := n6_
     have HO_425002 := n7_
     have BK396 := n8_
     have BK405 := n9_
     have BK414 := n10_
     have BK424 := n11_
     have HB := n12_
     clear n0_ n1_ n2_ n3_ n4_ n5_ n6_ n7_ n8_ n9_ n10_ n11_ n12_
     have p425 : 0 ≤ (x11_2 : Int) := zA16
     have q425 : x11_2 < (t389.length : Int) := zA16
     obtain ⟨ad425, e425, hx425_0, hx425_1, hx425_2, hx425_3, hx425_4⟩ := at_T52 (Kd.R_reads' HO_397001.out).2.2 x11_2 p425 q425
     cases e425
     replace p425 := eq_true p425
     replace q425 := eq_true q425
     have p426 : 0 ≤ (x11_2 : Int) := zA16
     have q426 : x11_2 < (t398.length : Int) := zA16
     obtain ⟨ad426, e426, hx426_0, hx426_1, hx426_2, hx426_3, hx426_4⟩ := at_T52 (Kd.R_reads' HO_406001.out).2.2 x11_2 p426 q426
     cases e426
     replace p426 := eq_true p426
     replace q426 := eq_true q426
     refine start_ (n := 14) (S := fun w' => w'.cell? ⟨gb396, 0, none⟩ = some (.string t388) ∧ w'.cell? ⟨gb396, 1, none⟩ = some (.slice (some ad425) t389.length co11) ∧ w'.cell? ⟨gb396, 2, none⟩ = some (.slice Ao12 t392.length co12) ∧ w'.cell? ⟨gb405, 0, none⟩ = some (.string t397) ∧ w'.cell? ⟨gb405, 1, none⟩ = some (.slice (some ad426) t398.length co17) ∧ w'.cell? ⟨gb405, 2, none⟩ = some (.slice Ao18 t401.length co18) ∧ w'.cell? (ad425.add ((x11_2).toNat * 5)) = some (.int .i64 ((rd_T52 t389 x11_2).f0)) ∧ w'.cell? ⟨(ad425.add ((x11_2).toNat * 5)).block, (ad425.add ((x11_2).toNat * 5)).off + 1, none⟩ = some (.int .i64 ((rd_T52 t389 x11_2).f1)) ∧ w'.cell? ⟨(ad425.add ((x11_2).toNat * 5)).block, (ad425.add ((x11_2).toNat * 5)).off + 2, none⟩ = some (.int .i64 ((rd_T52 t389 x11_2).f2)) ∧ w'.cell? ⟨(ad425.add ((x11_2).toNat * 5)).block, (ad425.add ((x11_2).toNat * 5)).off + 3, none⟩ = some (.int .i64 ((rd_T52 t389 x11_2).f3)) ∧ w'.cell? ⟨(ad425.add ((x11_2).toNat * 5)).block, (ad425.add ((x11_2).toNat * 5)).off + 4, none⟩ = some (.int .i64 ((rd_T52 t389 x11_2).f4)) ∧ w'.cell? (ad426.add ((x11_2).toNat * 5)) = some (.int .i64 ((rd_T52 t398 x11_2).f0)) ∧ w'.cell? ⟨(ad426.add ((x11_2).toNat * 5)).block, (ad426.add ((x11_2).toNat * 5)).off + 1, none⟩ = some (.int .i64 ((rd_T52 t398 x11_2).f1)) ∧ w'.cell? ⟨(ad426.add ((x11_2).toNat * 5)).block, (ad426.add ((x11_2).toNat * 5)).off + 2, none⟩ = some (.int .i64 ((rd_T52 t398 x11_2).f2)) ∧ w'.cell? ⟨(ad426.add ((x11_2).toNat * 5)).block, (ad426.add ((x11_2).toNat * 5)).off + 3, none⟩ = some (.int .i64 ((rd_T52 t398 x11_2).f3)) ∧ w'.cell? ⟨(ad426.add ((x11_2).toNat * 5)).block, (ad426.add ((x11_2).toNat * 5)).off + 4, none⟩ = some (.int .i64 ((rd_T52 t398 x11_2).f4))) (ds := []) #[false, false, false, false, false, false, false, false, false, false, false, false, false, false] (by kernel_rfl) rfl rfl ⟨(blk_cell BK396.out 0).trans rfl, (blk_cell BK396.out 1).trans rfl, (blk_cell BK396.out 2).trans rfl, (blk_cell BK405.out 0).trans rfl, (blk_cell BK405.out 1).trans rfl, (blk_cell BK405.out 2).trans rfl, hx425_0, hx425_1, hx425_2, hx425_3, hx425_4, hx426_0, hx426_1, hx426_2, hx426_3, hx426_4⟩ (fun hHeld => ?_); refine with_tabW laws_FnMoved.tab14 laws_FnMoved.bits14 (fun HT_ HW_ => ?_)
     generalize wr.drew = w57 at HO_397001 HO_397002 HO_406001 HO_406002 HO_415001 HO_415002 HO_425001 HO_425002 BK396 BK405 BK414 BK424 HB hx425_0 hx425_1 hx425_2 hx425_3 hx425_4 hx426_0 hx426_1 hx426_2 hx426_3 hx426_4 hHeld ⊢
     refine pure_ (i := 0) (N := some 61) (v := ?_) (a' := ?_) #[true, false, false, false, false, false, false, false, false, false, false, false, false, false] rfl rfl (any_of HT_.out (by kernel_rfl)) (fun _ _ _ h => h) (Or.inl ⟨by rfl, ?_⟩) ?_ ?_
     rotate_left
     ·intro w'
      go_simp
      with_reducible rfl
     rotate_left
     ·exact zV16
     refine pure_ (i := 2) (N := some 63) (v := ?_) (a' := ?_) #[true, false, true, false, false, false, false, false, false, false, false, false, false, false] rfl rfl (any_of HT_.out (by kernel_rfl)) (fun _ _ _ h => h) (Or.inl ⟨by rfl, ?_⟩) ?_ ?_
     rotate_left
     ·intro w'
      go_simp
      with_reducible rfl
     rotate_left
     ·exact zV16
     refine pure_ (i := 5) (N := some 66) (v := ?_) (a' := ?_) #[true, false, true, false, false, true, false, false, false, false, false, false, false, false] rfl rfl (any_of HT_.out (by kernel_rfl)) (fun _ _ _ h => h) (Or.inl ⟨by rfl, ?_⟩) ?_ ?_
     rotate_left
     ·intro w'
      go_simp
      with_reducible rfl
     rotate_left
     ·exact zV16
     refine pure_ (i := 7) (N := some 68) (v := ?_) (a' := ?_) #[true, false, true, false, false, true, false, true, false, false, false, false, false, false] rfl rfl (any_of HT_.out (by kernel_rfl)) (fun _ _ _ h => h) (Or.inl ⟨by rfl, ?_⟩) ?_ ?_
     rotate_left
     ·intro w'
      go_simp
      with_reducible rfl
     rotate_left
     ·exact zV16
     refine take_ (i := 1) (N := some 62) (v := ?_) (a' := ?_) #[true, true, true, false, false, true, false, true, false, false, false, false, false, false] rfl rfl (take_ofW HT_.out HW_.out (by kernel_rfl)) (fun _ _ _ h => h) (Or.inl ⟨by rfl, ?_⟩) hHeld ?_ ?_
     rotate_left
     ·rintro w' ⟨s0, s1, s2, s3, s4, s5, s6, s7, s8, s9, s10, s11, s12, s13, s14, s15⟩
      go_simp
      with_reducible rfl
     rotate_left
     ·exact zV16
     refine pure_ (i := 3) (N := some 64) (v := ?_) (a' := ?_) #[true, true, true, true, false, true, false, true, false, false, false, false, false, false] rfl rfl (any_of HT_.out (by kernel_rfl)) (fun _ _ _ h => h) (Or.inl ⟨by rfl, ?_⟩) ?_ ?_
     rotate_left
     ·intro w'
      go_simp
      with_reducible rfl
     rotate_left
     ·exact zV16
     refine take_ (i := 4) (N := some 65) (v := ?_) (a' := ?_) #[true, true, true, true, true, true, false, true, false, false, false, false, false, false] rfl rfl (take_ofW HT_.out HW_.out (by kernel_rfl)) (fun _ _ _ h => h) (Or.inl ⟨by rfl, ?_⟩) hHeld ?_ ?_
     rotate_left
     ·rintro w' ⟨s0, s1, s2, s3, s4, s5, s6, s7, s8, s9, s10, s11, s12, s13, s14, s15⟩
      go_simp
      with_reducible rfl
     rotate_left
     ·exact zV16
     refine take_ (i := 6) (N := some 67) (v := ?_) (a' := ?_) #[true, true, true, true, true, true, true, true, false, false, false, false, false, false] rfl rfl (take_ofW HT_.out HW_.out (by kernel_rfl)) (fun _ _ _ h => h) (Or.inl ⟨by rfl, ?_⟩) hHeld ?_ ?_
     rotate_left
     ·rintro w' ⟨s0, s1, s2, s3, s4, s5, s6, s7, s8, s9, s10, s11, s12, s13, s14, s15⟩
      go_simp
      with_reducible rfl
     rotate_left
     ·exact zV16
     refine pure_ (i := 8) (N := some 69) (v := ?_) (a' := ?_) #[true, true, true, true, true, true, true, true, true, false, false, false, false, false] rfl rfl (any_of HT_.out (by kernel_rfl)) (fun _ _ _ h => h) (Or.inl ⟨by rfl, ?_⟩) ?_ ?_
     rotate_left
     ·intro w'
      go_simp
      with_reducible rfl
     rotate_left
     ·exact zV16
     refine take_ (i := 9) (N := some 70) (v := ?_) (a' := ?_) #[true, true, true, true, true, true, true, true, true, true, false, false, false, false] rfl rfl (take_ofW HT_.out HW_.out (by kernel_rfl)) (fun _ _ _ h => h) (Or.inl ⟨by rfl, ?_⟩) hHeld ?_ ?_
     rotate_left
     ·rintro w' ⟨s0, s1, s2, s3, s4, s5, s6, s7, s8, s9, s10, s11, s12, s13, s14, s15⟩
      go_simp
      with_reducible rfl
     rotate_left
     ·exact zV16
     refine join_ (σ := Nat × Nat) 2 zq16_0 (fun s_ => [(12, .pointer (some ⟨s_.1, 0, none⟩)), (13, .pointer (some ⟨s_.2, 0, none⟩))]) (fun s_ w' => (w'.cell? ⟨gb396, 0, none⟩ = some (.string t388) ∧ w'.cell? ⟨gb396, 1, none⟩ = some (.slice (some ad425) t389.length co11) ∧ w'.cell? ⟨gb396, 2, none⟩ = some (.slice Ao12 t392.length co12) ∧ w'.cell? ⟨gb405, 0, none⟩ = some (.string t397) ∧ w'.cell? ⟨gb405, 1, none⟩ = some (.slice (some ad426) t398.length co17) ∧ w'.cell? ⟨gb405, 2, none⟩ = some (.slice Ao18 t401.length co18) ∧ w'.cell? (ad425.add ((x11_2).toNat * 5)) = some (.int .i64 ((rd_T52 t389 x11_2).f0)) ∧ w'.cell? ⟨(ad425.add ((x11_2).toNat * 5)).block, (ad425.add ((x11_2).toNat * 5)).off + 1, none⟩ = some (.int .i64 ((rd_T52 t389 x11_2).f1)) ∧ w'.cell? ⟨(ad425.add ((x11_2).toNat * 5)).block, (ad425.add ((x11_2).toNat * 5)).off + 2, none⟩ = some (.int .i64 ((rd_T52 t389 x11_2).f2)) ∧ w'.cell? ⟨(ad425.add ((x11_2).toNat * 5)).block, (ad425.add ((x11_2).toNat * 5)).off + 3, none⟩ = some (.int .i64 ((rd_T52 t389 x11_2).f3)) ∧ w'.cell? ⟨(ad425.add ((x11_2).toNat * 5)).block, (ad425.add ((x11_2).toNat * 5)).off + 4, none⟩ = some (.int .i64 ((rd_T52 t389 x11_2).f4)) ∧ w'.cell? (ad426.add ((x11_2).toNat * 5)) = some (.int .i64 ((rd_T52 t398 x11_2).f0)) ∧ w'.cell? ⟨(ad426.add ((x11_2).toNat * 5)).block, (ad426.add ((x11_2).toNat * 5)).off + 1, none⟩ = some (.int .i64 ((rd_T52 t398 x11_2).f1)) ∧ w'.cell? ⟨(ad426.add ((x11_2).toNat * 5)).block, (ad426.add ((x11_2).toNat * 5)).off + 2, none⟩ = some (.int .i64 ((rd_T52 t398 x11_2).f2)) ∧ w'.cell? ⟨(ad426.add ((x11_2).toNat * 5)).block, (ad426.add ((x11_2).toNat * 5)).off + 3, none⟩ = some (.int .i64 ((rd_T52 t398 x11_2).f3)) ∧ w'.cell? ⟨(ad426.add ((x11_2).toNat * 5)).block, (ad426.add ((x11_2).toNat * 5)).off + 4, none⟩ = some (.int .i64 ((rd_T52 t398 x11_2).f4))) ∧ (Kd.R k52 52 w' w.heap.size (fun k_ => some k_ ≠ (.slice (some ad426) t398.length co17 : Value).ownBlock ∧ some k_ ≠ (.slice Ao25 t407.length co25 : Value).ownBlock ∧ some k_ ≠ (.slice Ao47 t417.length co47 : Value).ownBlock ∧ k_ ≠ s_.1 ∧ k_ ≠ s_.2) (.slice (some ad425) t389.length co11) t389) ∧ (Kd.R k56 56 w' w.heap.size (fun k_ => some k_ ≠ (.slice Ao18 t401.length co18 : Value).ownBlock ∧ some k_ ≠ (.slice Ao26 t410.length co26 : Value).ownBlock ∧ some k_ ≠ (.slice Ao48 t420.length co48 : Value).ownBlock) (.slice Ao12 t392.length co12) t392) ∧ (Kd.R k52 52 w' w.heap.size (fun k_ => some k_ ≠ (.slice (some ad425) t389.length co11 : Value).ownBlock ∧ some k_ ≠ (.slice Ao25 t407.length co25 : Value).ownBlock ∧ some k_ ≠ (.slice Ao47 t417.length co47 : Value).ownBlock ∧ k_ ≠ s_.1 ∧ k_ ≠ s_.2) (.slice (some ad426) t398.length co17) t398) ∧ (Kd.R k56 56 w' w.heap.size (fun k_ => some k_ ≠ (.slice Ao12 t392.length co12 : Value).ownBlock ∧ some k_ ≠ (.slice Ao26 t410.length co26 : Value).ownBlock ∧ some k_ ≠ (.slice Ao48 t420.length co48 : Value).ownBlock) (.slice Ao18 t401.length co18) t401) ∧ (Kd.R k52 52 w' w.heap.size (fun k_ => some k_ ≠ (.slice (some ad425) t389.length co11 : Value).ownBlock ∧ some k_ ≠ (.slice (some ad426) t398.length co17 : Value).ownBlock ∧ some k_ ≠ (.slice Ao47 t417.length co47 : Value).ownBlock ∧ k_ ≠ s_.1 ∧ k_ ≠ s_.2) (.slice Ao25 t407.length co25) t407) ∧ (Kd.R k56 56 w' w.heap.size (fun k_ => some k_ ≠ (.slice Ao12 t392.length co12 : Value).ownBlock ∧ some k_ ≠ (.slice Ao18 t401.length co18 : Value).ownBlock ∧ some k_ ≠ (.slice Ao48 t420.length co48 : Value).ownBlock) (.slice Ao26 t410.length co26) t410) ∧ (Kd.R k52 52 w' w.heap.size (fun k_ => some k_ ≠ (.slice (some ad425) t389.length co11 : Value).ownBlock ∧ some k_ ≠ (.slice (some ad426) t398.length co17 : Value).ownBlock ∧ some k_ ≠ (.slice Ao25 t407.length co25 : Value).ownBlock ∧ k_ ≠ s_.1 ∧ k_ ≠ s_.2) (.slice Ao47 t417.length co47) t417) ∧ (Kd.R k56 56 w' w.heap.size (fun k_ => some k_ ≠ (.slice Ao12 t392.length co12 : Value).ownBlock ∧ some k_ ≠ (.slice Ao18 t401.length co18 : Value).ownBlock ∧ some k_ ≠ (.slice Ao26 t410.length co26 : Value).ownBlock) (.slice Ao48 t420.length co48) t420) ∧ (w'.heap[gb396]? = some (.cells #[.string t388, .slice (some ad425) t389.length co11, .slice Ao12 t392.length co12] 45 (0, 0))) ∧ (w'.heap[gb405]? = some (.cells #[.string t397, .slice (some ad426) t398.length co17, .slice Ao18 t401.length co18] 45 (0, 0))) ∧ (w'.heap[gb414]? = some (.cells #[.string t406, .slice Ao25 t407.length co25, .slice Ao26 t410.length co26] 45 (0, 0))) ∧ (w'.heap[gb424]? = some (.cells #[.string t416, .slice Ao47 t417.length co47, .slice Ao48 t420.length co48] 45 (0, 0))) ∧ (w'.heap[s_.1]? = some (.cells #[.int .i64 0, .int .i64 0, .int .i64 0, .int .i64 0, .int .i64 0] 52 (0, 0))) ∧ (w'.heap[s_.2]? = some (.cells #[.int .i64 0, .int .i64 0, .int .i64 0, .int .i64 0, .int .i64 0] 52 (0, 0))) ∧ (w.heap.size ≤ s_.1) ∧ (w.heap.size ≤ s_.1) ∧ (gb396 ≠ s_.1) ∧ (s_.1 ≠ gb396) ∧ (gb405 ≠ s_.1) ∧ (s_.1 ≠ gb405) ∧ (gb414 ≠ s_.1) ∧ (s_.1 ≠ gb414) ∧ (gb424 ≠ s_.1) ∧ (s_.1 ≠ gb424) ∧ (s_.2 ≠ s_.1) ∧ (s_.1 ≠ s_.2) ∧ (w.heap.size ≤ s_.2) ∧ (w.heap.size ≤ s_.2) ∧ (gb396 ≠ s_.2) ∧ (s_.2 ≠ gb396) ∧ (gb405 ≠ s_.2) ∧ (s_.2 ≠ gb405) ∧ (gb414 ≠ s_.2) ∧ (s_.2 ≠ gb414) ∧ (gb424 ≠ s_.2) ∧ (s_.2 ≠ gb424) ∧ (Below w.heap.size w w')) ?_ ?_
     rotate_left
     ·intro hCont
      refine two_ (i := 10) (j := 11) (Ni := some 12) (Nj := some 13) #[true, true, true, true, true, true, true, true, true, true, true, false, false, false] #[true, true, true, true, true, true, true, true, true, true, false, true, false, false] rfl rfl rfl rfl (two_of HT_.out (by kernel_rfl)) (by decide) (by decide) (fun K hK => ?_) (fun K hK => ?_)
      ·skip
       refine box_step ?hg (N := 12) ?hd (cs := #[.int .i64 0, .int .i64 0, .int .i64 0, .int .i64 0, .int .i64 0]) (t := 52) ?hr ?_; (case hd => rfl); (case hg => rfl); (case hr => first | (go_simp; done) | (go_simp; rfl))
       intro gb427 hg w58 hbox hb
       have HS6_ := (hb.cell (World.block_lt_of_cell? _ _ (hHeld.2.2.2.2.2.2.1))).trans (hHeld.2.2.2.2.2.2.1)
       have HS7_ := (hb.cell (World.block_lt_of_cell? _ _ (hHeld.2.2.2.2.2.2.2.1))).trans (hHeld.2.2.2.2.2.2.2.1)
       have HS8_ := (hb.cell (World.block_lt_of_cell? _ _ (hHeld.2.2.2.2.2.2.2.2.1))).trans (hHeld.2.2.2.2.2.2.2.2.1)
       have HS9_ := (hb.cell (World.block_lt_of_cell? _ _ (hHeld.2.2.2.2.2.2.2.2.2.1))).trans (hHeld.2.2.2.2.2.2.2.2.2.1)
       have HS10_ := (hb.cell (World.block_lt_of_cell? _ _ (hHeld.2.2.2.2.2.2.2.2.2.2.1))).trans (hHeld.2.2.2.2.2.2.2.2.2.2.1)
       have HS11_ := (hb.cell (World.block_lt_of_cell? _ _ (hHeld.2.2.2.2.2.2.2.2.2.2.2.1))).trans (hHeld.2.2.2.2.2.2.2.2.2.2.2.1)
       have HS12_ := (hb.cell (World.block_lt_of_cell? _ _ (hHeld.2.2.2.2.2.2.2.2.2.2.2.2.1))).trans (hHeld.2.2.2.2.2.2.2.2.2.2.2.2.1)
       have HS13_ := (hb.cell (World.block_lt_of_cell? _ _ (hHeld.2.2.2.2.2.2.2.2.2.2.2.2.2.1))).trans (hHeld.2.2.2.2.2.2.2.2.2.2.2.2.2.1)
       have HS14_ := (hb.cell (World.block_lt_of_cell? _ _ (hHeld.2.2.2.2.2.2.2.2.2.2.2.2.2.2.1))).trans (hHeld.2.2.2.2.2.2.2.2.2.2.2.2.2.2.1)
       have HS15_ := (hb.cell (World.block_lt_of_cell? _ _ (hHeld.2.2.2.2.2.2.2.2.2.2.2.2.2.2.2))).trans (hHeld.2.2.2.2.2.2.2.2.2.2.2.2.2.2.2)
       have n0_ := Aside0.mk (Kd.R_below (Kd.R_elderB (zR16 HO_397001.out) gb427 (Nat.le_of_eq hg.symm)) hb)
       have n1_ := Aside0.mk (Kd.R_below (zR16 HO_397002.out) hb)
       have n2_ := Aside0.mk (Kd.R_below (Kd.R_elderB (zR16 HO_406001.out) gb427 (Nat.le_of_eq hg.symm)) hb)
       have n3_ := Aside0.mk (Kd.R_below (zR16 HO_406002.out) hb)
       have n4_ := Aside0.mk (Kd.R_below (Kd.R_elderB (zR16 HO_415001.out) gb427 (Nat.le_of_eq hg.symm)) hb)
       have n5_ := Aside0.mk (Kd.R_below (zR16 HO_415002.out) hb)
       have n6_ := Aside0.mk (Kd.R_below (Kd.R_elderB (zR16 HO_425001.out) gb427 (Nat.le_of_eq hg.symm)) hb)
       have n7_ := Aside0.mk (Kd.R_below (zR16 HO_425002.out) hb)
       have n8_ := Aside0.mk (zb16 BK396.out hb)
       have n9_ := Aside0.mk (zb16 BK405.out hb)
       have n10_ := Aside0.mk (zb16 BK414.out hb)
       have n11_ := Aside0.mk (zb16 BK424.out hb)
       have n12_ := Aside0.mk (below_step (zB16_4) hb)
       have n13_ := Aside0.mk (hbox)
       have n14_ := Aside0.mk ((by rw [hg]; exact (below_size (zB16_4)) : w.heap.size ≤ gb427))
       have n15_ := Aside0.mk ((by rw [hg]; exact (below_size (zB16_4)) : w.heap.size ≤ gb427))
       have n16_ := Aside0.mk ((zn16 BK396.out hg : gb396 ≠ gb427))
       have n17_ := Aside0.mk ((zm16 BK396.out hg : gb427 ≠ gb396))
       have n18_ := Aside0.mk ((zn16 BK405.out hg : gb405 ≠ gb427))
       have n19_ := Aside0.mk ((zm16 BK405.out hg : gb427 ≠ gb405))
       have n20_ := Aside0.mk ((zn16 BK414.out hg : gb414 ≠ gb427))
       have n21_ := Aside0.mk ((zm16 BK414.out hg : gb427 ≠ gb414))
       have n22_ := Aside0.mk ((zn16 BK424.out hg : gb424 ≠ gb427))
       have n23_ := Aside0.mk ((zm16 BK424.out hg : gb427 ≠ gb424))
       clear HO_397001 HO_397002 HO_406001 HO_406002 HO_415001 HO_415002 HO_425001 HO_425002 BK396 BK405 BK414 BK424 HB
       have HO_397001 := n0_
       have HO_397002 := n1_
       have HO_406001 := n2_
       have HO_406002 := n3_
       have HO_415001 := n4_
       have HO_415002 := n5_
       have HO_425001 := n6_
       have HO_425002 := n7_
       have BK396 := n8_
       have BK405 := n9_
       have BK414 := n10_
       have BK424 := n11_
       have HB := n12_
       have BK427 := n13_
       have GW427 := n14_
       have GE427 := n15_
       have NB396_427 := n16_
       have NB427_396 := n17_
       have NB405_427 := n18_
       have NB427_405 := n19_
       have NB414_427 := n20_
       have NB427_414 := n21_
       have NB424_427 := n22_
       have NB427_424 := n23_
       clear n0_ n1_ n2_ n3_ n4_ n5_ n6_ n7_ n8_ n9_ n10_ n11_ n12_ n13_ n14_ n15_ n16_ n17_ n18_ n19_ n20_ n21_ n22_ n23_ hb hbox hg
       refine hK.out _ _ ⟨(blk_cell BK396.out 0).trans rfl, (blk_cell BK396.out 1).trans rfl, (blk_cell BK396.out 2).trans rfl, (blk_cell BK405.out 0).trans rfl, (blk_cell BK405.out 1).trans rfl, (blk_cell BK405.out 2).trans rfl, HS6_, HS7_, HS8_, HS9_, HS10_, HS11_, HS12_, HS13_, HS14_, HS15_⟩ (fun hHeld => ?_)
       clear hK K
       refine norm_ (a' := ?_) ?_ ?_
       rotate_left
       ·show Act.put _ (some 12) _ = _
        simp only [Act.put, List.setIfInBounds_toArray, List.set_cons_zero, List.set_cons_succ, i64_w, i32_w]
        rfl
       refine one_ (i := 11) (N := some 13) zq16_0 rfl rfl (one_of HT_.out (by kernel_rfl)) (by decide) (fun K hK => ?_)
       refine box_step ?hg (N := 13) ?hd (cs := #[.int .i64 0, .int .i64 0, .int .i64 0, .int .i64 0, .int .i64 0]) (t := 52) ?hr ?_; (case hd => rfl); (case hg => rfl); (case hr => first | (go_simp; done) | (go_simp; rfl))
       intro gb428 hg w59 hbox hb
       have HS6_ := (hb.cell (World.block_lt_of_cell? _ _ (hHeld.2.2.2.2.2.2.1))).trans (hHeld.2.2.2.2.2.2.1)
       have HS7_ := (hb.cell (World.block_lt_of_cell? _ _ (hHeld.2.2.2.2.2.2.2.1))).trans (hHeld.2.2.2.2.2.2.2.1)
       have HS8_ := (hb.cell (World.block_lt_of_cell? _ _ (hHeld.2.2.2.2.2.2.2.2.1))).trans (hHeld.2.2.2.2.2.2.2.2.1)
       have HS9_ := (hb.cell (World.block_lt_of_cell? _ _ (hHeld.2.2.2.2.2.2.2.2.2.1))).trans (hHeld.2.2.2.2.2.2.2.2.2.1)
       have HS10_ := (hb.cell (World.block_lt_of_cell? _ _ (hHeld.2.2.2.2.2.2.2.2.2.2.1))).trans (hHeld.2.2.2.2.2.2.2.2.2.2.1)
       have HS11_ := (hb.cell (World.block_lt_of_cell? _ _ (hHeld.2.2.2.2.2.2.2.2.2.2.2.1))).trans (hHeld.2.2.2.2.2.2.2.2.2.2.2.1)
       have HS12_ := (hb.cell (World.block_lt_of_cell? _ _ (hHeld.2.2.2.2.2.2.2.2.2.2.2.2.1))).trans (hHeld.2.2.2.2.2.2.2.2.2.2.2.2.1)
       have HS13_ := (hb.cell (World.block_lt_of_cell? _ _ (hHeld.2.2.2.2.2.2.2.2.2.2.2.2.2.1))).trans (hHeld.2.2.2.2.2.2.2.2.2.2.2.2.2.1)
       have HS14_ := (hb.cell (World.block_lt_of_cell? _ _ (hHeld.2.2.2.2.2.2.2.2.2.2.2.2.2.2.1))).trans (hHeld.2.2.2.2.2.2.2.2.2.2.2.2.2.2.1)
       have HS15_ := (hb.cell (World.block_lt_of_cell? _ _ (hHeld.2.2.2.2.2.2.2.2.2.2.2.2.2.2.2))).trans (hHeld.2.2.2.2.2.2.2.2.2.2.2.2.2.2.2)
       have n0_ := Aside0.mk (Kd.R_below (Kd.R_elderB (zR16 HO_397001.out) gb428 (Nat.le_of_eq hg.symm)) hb)
       have n1_ := Aside0.mk (Kd.R_below (zR16 HO_397002.out) hb)
       have n2_ := Aside0.mk (Kd.R_below (Kd.R_elderB (zR16 HO_406001.out) gb428 (Nat.le_of_eq hg.symm)) hb)
       have n3_ := Aside0.mk (Kd.R_below (zR16 HO_406002.out) hb)
       have n4_ := Aside0.mk (Kd.R_below (Kd.R_elderB (zR16 HO_415001.out) gb428 (Nat.le_of_eq hg.symm)) hb)
       have n5_ := Aside0.mk (Kd.R_below (zR16 HO_415002.out) hb)
       have n6_ := Aside0.mk (Kd.R_below (Kd.R_elderB (zR16 HO_425001.out) gb428 (Nat.le_of_eq hg.symm)) hb)
       have n7_ := Aside0.mk (Kd.R_below (zR16 HO_425002.out) hb)
       have n8_ := Aside0.mk (zb16 BK396.out hb)
       have n9_ := Aside0.mk (zb16 BK405.out hb)
       have n10_ := Aside0.mk (zb16 BK414.out hb)
       have n11_ := Aside0.mk (zb16 BK424.out hb)
       have n12_ := Aside0.mk (zb16 BK427.out hb)
       have n13_ := Aside0.mk (below_step (zB16_5) hb)
       have n14_ := Aside0.mk (hbox)
       have n15_ := Aside0.mk ((by rw [hg]; exact (below_size (zB16_5)) : w.heap.size ≤ gb428))
       have n16_ := Aside0.mk ((by rw [hg]; exact (below_size (zB16_5)) : w.heap.size ≤ gb428))
       have n17_ := Aside0.mk ((zn16 BK396.out hg : gb396 ≠ gb428))
       have n18_ := Aside0.mk ((zm16 BK396.out hg : gb428 ≠ gb396))
       have n19_ := Aside0.mk ((zn16 BK405.out hg : gb405 ≠ gb428))
       have n20_ := Aside0.mk ((zm16 BK405.out hg : gb428 ≠ gb405))
       have n21_ := Aside0.mk ((zn16 BK414.out hg : gb414 ≠ gb428))
       have n22_ := Aside0.mk ((zm16 BK414.out hg : gb428 ≠ gb414))
       have n23_ := Aside0.mk ((zn16 BK424.out hg : gb424 ≠ gb428))
       have n24_ := Aside0.mk ((zm16 BK424.out hg : gb428 ≠ gb424))
       have n25_ := Aside0.mk ((zn16 BK427.out hg : gb427 ≠ gb428))
       have n26_ := Aside0.mk ((zm16 BK427.out hg : gb428 ≠ gb427))
       clear HO_397001 HO_397002 HO_406001 HO_406002 HO_415001 HO_415002 HO_425001 HO_425002 BK396 BK405 BK414 BK424 BK427 HB
       have HO_397001 := n0_
       have HO_397002 := n1_
       have HO_406001 := n2_
       have HO_406002 := n3_
       have HO_415001 := n4_
       have HO_415002 := n5_
       have HO_425001 := n6_
       have HO_425002 := n7_
       have BK396 := n8_
       have BK405 := n9_
       have BK414 := n10_
       have BK424 := n11_
       have BK427 := n12_
       have HB := n13_
       have BK428 := n14_
       have GW428 := n15_
       have GE428 := n16_
       have NB396_428 := n17_
       have NB428_396 := n18_
       have NB405_428 := n19_
       have NB428_405 := n20_
       have NB414_428 := n21_
       have NB428_414 := n22_
       have NB424_428 := n23_
       have NB428_424 := n24_
       have NB427_428 := n25_
       have NB428_427 := n26_
       clear n0_ n1_ n2_ n3_ n4_ n5_ n6_ n7_ n8_ n9_ n10_ n11_ n12_ n13_ n14_ n15_ n16_ n17_ n18_ n19_ n20_ n21_ n22_ n23_ n24_ n25_ n26_ hb hbox hg
       refine hK.out _ _ ⟨(blk_cell BK396.out 0).trans rfl, (blk_cell BK396.out 1).trans rfl, (blk_cell BK396.out 2).trans rfl, (blk_cell BK405.out 0).trans rfl, (blk_cell BK405.out 1).trans rfl, (blk_cell BK405.out 2).trans rfl, HS6_, HS7_, HS8_, HS9_, HS10_, HS11_, HS12_, HS13_, HS14_, HS15_⟩ (fun hHeld => ?_)
       clear hK K
       refine norm_ (a' := ?_) ?_ ?_
       rotate_left
       ·show Act.put _ (some 13) _ = _
        simp only [Act.put, List.setIfInBounds_toArray, List.set_cons_zero, List.set_cons_succ, i64_w, i32_w]
        rfl
       exact norm_ (by simp only [putAll, Act.put, List.setIfInBounds_toArray, List.set_cons_zero, List.set_cons_succ]) (hCont (gb427, gb428) _ ⟨hHeld, (by (with_reducible repeat (first | apply Kd.R_alloc | apply Kd.R_drewN | apply Kd.R_drew)); exact Kd.R_mono HO_397001.out (fun _ hk => ⟨hk.1.1.1, ⟨hk.1.1.2.1, ⟨hk.1.1.2.2, ⟨hk.1.2, hk.2⟩⟩⟩⟩)), (zR16 HO_397002.out), (by (with_reducible repeat (first | apply Kd.R_alloc | apply Kd.R_drewN | apply Kd.R_drew)); exact Kd.R_mono HO_406001.out (fun _ hk => ⟨hk.1.1.1, ⟨hk.1.1.2.1, ⟨hk.1.1.2.2, ⟨hk.1.2, hk.2⟩⟩⟩⟩)), (zR16 HO_406002.out), (by (with_reducible repeat (first | apply Kd.R_alloc | apply Kd.R_drewN | apply Kd.R_drew)); exact Kd.R_mono HO_415001.out (fun _ hk => ⟨hk.1.1.1, ⟨hk.1.1.2.1, ⟨hk.1.1.2.2, ⟨hk.1.2, hk.2⟩⟩⟩⟩)), (zR16 HO_415002.out), (by (with_reducible repeat (first | apply Kd.R_alloc | apply Kd.R_drewN | apply Kd.R_drew)); exact Kd.R_mono HO_425001.out (fun _ hk => ⟨hk.1.1.1, ⟨hk.1.1.2.1, ⟨hk.1.1.2.2, ⟨hk.1.2, hk.2⟩⟩⟩⟩)), (zR16 HO_425002.out), (zK16 BK396.out), (zK16 BK405.out), (zK16 BK414.out), (zK16 BK424.out), (zK16 BK427.out), (zK16 BK428.out), GW427.out, GE427.out, NB396_427.out, NB427_396.out, NB405_427.out, NB427_405.out, NB414_427.out, NB427_414.out, NB424_427.out, NB427_424.out, NB428_427.out, NB427_428.out, GW428.out, GE428.out, NB396_428.out, NB428_396.out, NB405_428.out, NB428_405.out, NB414_428.out, NB428_414.out, NB424_428.out, NB428_424.out, (zB16_6)⟩)
      ·skip
       refine box_step ?hg (N := 13) ?hd (cs := #[.int .i64 0, .int .i64 0, .int .i64 0, .int .i64 0, .int .i64 0]) (t := 52) ?hr ?_; (case hd => rfl); (case hg => rfl); (case hr => first | (go_simp; done) | (go_simp; rfl))
       intro gb428 hg w58 hbox hb
       have HS6_ := (hb.cell (World.block_lt_of_cell? _ _ (hHeld.2.2.2.2.2.2.1))).trans (hHeld.2.2.2.2.2.2.1)
       have HS7_ := (hb.cell (World.block_lt_of_cell? _ _ (hHeld.2.2.2.2.2.2.2.1))).trans (hHeld.2.2.2.2.2.2.2.1)
       have HS8_ := (hb.cell (World.block_lt_of_cell? _ _ (hHeld.2.2.2.2.2.2.2.2.1))).trans (hHeld.2.2.2.2.2.2.2.2.1)
       have HS9_ := (hb.cell (World.block_lt_of_cell? _ _ (hHeld.2.2.2.2.2.2.2.2.2.1))).trans (hHeld.2.2.2.2.2.2.2.2.2.1)
       have HS10_ := (hb.cell (World.block_lt_of_cell? _ _ (hHeld.2.2.2.2.2.2.2.2.2.2.1))).trans (hHeld.2.2.2.2.2.2.2.2.2.2.1)
       have HS11_ := (hb.cell (World.block_lt_of_cell? _ _ (hHeld.2.2.2.2.2.2.2.2.2.2.2.1))).trans (hHeld.2.2.2.2.2.2.2.2.2.2.2.1)
       have HS12_ := (hb.cell (World.block_lt_of_cell? _ _ (hHeld.2.2.2.2.2.2.2.2.2.2.2.2.1))).trans (hHeld.2.2.2.2.2.2.2.2.2.2.2.2.1)
       have HS13_ := (hb.cell (World.block_lt_of_cell? _ _ (hHeld.2.2.2.2.2.2.2.2.2.2.2.2.2.1))).trans (hHeld.2.2.2.2.2.2.2.2.2.2.2.2.2.1)
       have HS14_ := (hb.cell (World.block_lt_of_cell? _ _ (hHeld.2.2.2.2.2.2.2.2.2.2.2.2.2.2.1))).trans (hHeld.2.2.2.2.2.2.2.2.2.2.2.2.2.2.1)
       have HS15_ := (hb.cell (World.block_lt_of_cell? _ _ (hHeld.2.2.2.2.2.2.2.2.2.2.2.2.2.2.2))).trans (hHeld.2.2.2.2.2.2.2.2.2.2.2.2.2.2.2)
       have n0_ := Aside0.mk (Kd.R_below (Kd.R_elderB (zR16 HO_397001.out) gb428 (Nat.le_of_eq hg.symm)) hb)
       have n1_ := Aside0.mk (Kd.R_below (zR16 HO_397002.out) hb)
       have n2_ := Aside0.mk (Kd.R_below (Kd.R_elderB (zR16 HO_406001.out) gb428 (Nat.le_of_eq hg.symm)) hb)
       have n3_ := Aside0.mk (Kd.R_below (zR16 HO_406002.out) hb)
       have n4_ := Aside0.mk (Kd.R_below (Kd.R_elderB (zR16 HO_415001.out) gb428 (Nat.le_of_eq hg.symm)) hb)
       have n5_ := Aside0.mk (Kd.R_below (zR16 HO_415002.out) hb)
       have n6_ := Aside0.mk (Kd.R_below (Kd.R_elderB (zR16 HO_425001.out) gb428 (Nat.le_of_eq hg.symm)) hb)
       have n7_ := Aside0.mk (Kd.R_below (zR16 HO_425002.out) hb)
       have n8_ := Aside0.mk (zb16 BK396.out hb)
       have n9_ := Aside0.mk (zb16 BK405.out hb)
       have n10_ := Aside0.mk (zb16 BK414.out hb)
       have n11_ := Aside0.mk (zb16 BK424.out hb)
       have n12_ := Aside0.mk (below_step (zB16_4) hb)
       have n13_ := Aside0.mk (hbox)
       have n14_ := Aside0.mk ((by rw [hg]; exact (below_size (zB16_4)) : w.heap.size ≤ gb428))
       have n15_ := Aside0.mk ((by rw [hg]; exact (below_size (zB16_4)) : w.heap.size ≤ gb428))
       have n16_ := Aside0.mk ((zn16 BK396.out hg : gb396 ≠ gb428))
       have n17_ := Aside0.mk ((zm16 BK396.out hg : gb428 ≠ gb396))
       have n18_ := Aside0.mk ((zn16 BK405.out hg : gb405 ≠ gb428))
       have n19_ := Aside0.mk ((zm16 BK405.out hg : gb428 ≠ gb405))
       have n20_ := Aside0.mk ((zn16 BK414.out hg : gb414 ≠ gb428))
       have n21_ := Aside0.mk ((zm16 BK414.out hg : gb428 ≠ gb414))
       have n22_ := Aside0.mk ((zn16 BK424.out hg : gb424 ≠ gb428))
       have n23_ := Aside0.mk ((zm16 BK424.out hg : gb428 ≠ gb424))
       clear HO_397001 HO_397002 HO_406001 HO_406002 HO_415001 HO_415002 HO_425001 HO_425002 BK396 BK405 BK414 BK424 HB
       have HO_397001 := n0_
       have HO_397002 := n1_
       have HO_406001 := n2_
       have HO_406002 := n3_
       have HO_415001 := n4_
       have HO_415002 := n5_
       have HO_425001 := n6_
       have HO_425002 := n7_
       have BK396 := n8_
       have BK405 := n9_
       have BK414 := n10_
       have BK424 := n11_
       have HB := n12_
       have BK428 := n13_
       have GW428 := n14_
       have GE428 := n15_
       have NB396_428 := n16_
       have NB428_396 := n17_
       have NB405_428 := n18_
       have NB428_405 := n19_
       have NB414_428 := n20_
       have NB428_414 := n21_
       have NB424_428 := n22_
       have NB428_424 := n23_
       clear n0_ n1_ n2_ n3_ n4_ n5_ n6_ n7_ n8_ n9_ n10_ n11_ n12_ n13_ n14_ n15_ n16_ n17_ n18_ n19_ n20_ n21_ n22_ n23_ hb hbox hg
       refine hK.out _ _ ⟨(blk_cell BK396.out 0).trans rfl, (blk_cell BK396.out 1).trans rfl, (blk_cell BK396.out 2).trans rfl, (blk_cell BK405.out 0).trans rfl, (blk_cell BK405.out 1).trans rfl, (blk_cell BK405.out 2).trans rfl, HS6_, HS7_, HS8_, HS9_, HS10_, HS11_, HS12_, HS13_, HS14_, HS15_⟩ (fun hHeld => ?_)
       clear hK K
       refine norm_ (a' := ?_) ?_ ?_
       rotate_left
       ·show Act.put _ (some 13) _ = _
        simp only [Act.put, List.setIfInBounds_toArray, List.set_cons_zero, List.set_cons_succ, i64_w, i32_w]
        rfl
       refine one_ (i := 10) (N := some 12) zq16_0 rfl rfl (one_of HT_.out (by kernel_rfl)) (by decide) (fun K hK => ?_)
       refine box_step ?hg (N := 12) ?hd (cs := #[.int .i64 0, .int .i64 0, .int .i64 0, .int .i64 0, .int .i64 0]) (t := 52) ?hr ?_; (case hd => rfl); (case hg => rfl); (case hr => first | (go_simp; done) | (go_simp; rfl))
       intro gb427 hg w59 hbox hb
       have HS6_ := (hb.cell (World.block_lt_of_cell? _ _ (hHeld.2.2.2.2.2.2.1))).trans (hHeld.2.2.2.2.2.2.1)
       have HS7_ := (hb.cell (World.block_lt_of_cell? _ _ (hHeld.2.2.2.2.2.2.2.1))).trans (hHeld.2.2.2.2.2.2.2.1)
       have HS8_ := (hb.cell (World.block_lt_of_cell? _ _ (hHeld.2.2.2.2.2.2.2.2.1))).trans (hHeld.2.2.2.2.2.2.2.2.1)
       have HS9_ := (hb.cell (World.block_lt_of_cell? _ _ (hHeld.2.2.2.2.2.2.2.2.2.1))).trans (hHeld.2.2.2.2.2.2.2.2.2.1)
       have HS10_ := (hb.cell (World.block_lt_of_cell? _ _ (hHeld.2.2.2.2.2.2.2.2.2.2.1))).trans (hHeld.2.2.2.2.2.2.2.2.2.2.1)
       have HS11_ := (hb.cell (World.block_lt_of_cell? _ _ (hHeld.2.2.2.2.2.2.2.2.2.2.2.1))).trans (hHeld.2.2.2.2.2.2.2.2.2.2.2.1)
       have HS12_ := (hb.cell (World.block_lt_of_cell? _ _ (hHeld.2.2.2.2.2.2.2.2.2.2.2.2.1))).trans (hHeld.2.2.2.2.2.2.2.2.2.2.2.2.1)
       have HS13_ := (hb.cell (World.block_lt_of_cell? _ _ (hHeld.2.2.2.2.2.2.2.2.2.2.2.2.2.1))).trans (hHeld.2.2.2.2.2.2.2.2.2.2.2.2.2.1)
       have HS14_ := (hb.cell (World.block_lt_of_cell? _ _ (hHeld.2.2.2.2.2.2.2.2.2.2.2.2.2.2.1))).trans (hHeld.2.2.2.2.2.2.2.2.2.2.2.2.2.2.1)
       have HS15_ := (hb.cell (World.block_lt_of_cell? _ _ (hHeld.2.2.2.2.2.2.2.2.2.2.2.2.2.2.2))).trans (hHeld.2.2.2.2.2.2.2.2.2.2.2.2.2.2.2)
       have n0_ := Aside0.mk (Kd.R_below (Kd.R_elderB (zR16 HO_397001.out) gb427 (Nat.le_of_eq hg.symm)) hb)
       have n1_ := Aside0.mk (Kd.R_below (zR16 HO_397002.out) hb)
       have n2_ := Aside0.mk (Kd.R_below (Kd.R_elderB (zR16 HO_406001.out) gb427 (Nat.le_of_eq hg.symm)) hb)
       have n3_ := Aside0.mk (Kd.R_below (zR16 HO_406002.out) hb)
       have n4_ := Aside0.mk (Kd.R_below (Kd.R_elderB (zR16 HO_415001.out) gb427 (Nat.le_of_eq hg.symm)) hb)
       have n5_ := Aside0.mk (Kd.R_below (zR16 HO_415002.out) hb)
       have n6_ := Aside0.mk (Kd.R_below (Kd.R_elderB (zR16 HO_425001.out) gb427 (Nat.le_of_eq hg.symm)) hb)
       have n7_ := Aside0.mk (Kd.R_below (zR16 HO_425002.out) hb)
       have n8_ := Aside0.mk (zb16 BK396.out hb)
       have n9_ := Aside0.mk (zb16 BK405.out hb)
       have n10_ := Aside0.mk (zb16 BK414.out hb)
       have n11_ := Aside0.mk (zb16 BK424.out hb)
       have n12_ := Aside0.mk (zb16 BK428.out hb)
       have n13_ := Aside0.mk (below_step (zB16_7) hb)
       have n14_ := Aside0.mk (hbox)
       have n15_ := Aside0.mk ((by rw [hg]; exact (below_size (zB16_7)) : w.heap.size ≤ gb427))
       have n16_ := Aside0.mk ((by rw [hg]; exact (below_size (zB16_7)) : w.heap.size ≤ gb427))
       have n17_ := Aside0.mk ((zn16 BK396.out hg : gb396 ≠ gb427))
       have n18_ := Aside0.mk ((zm16 BK396.out hg : gb427 ≠ gb396))
       have n19_ := Aside0.mk ((zn16 BK405.out hg : gb405 ≠ gb427))
       have n20_ := Aside0.mk ((zm16 BK405.out hg : gb427 ≠ gb405))
       have n21_ := Aside0.mk ((zn16 BK414.out hg : gb414 ≠ gb427))
       have n22_ := Aside0.mk ((zm16 BK414.out hg : gb427 ≠ gb414))
       have n23_ := Aside0.mk ((zn16 BK424.out hg : gb424 ≠ gb427))
       have n24_ := Aside0.mk ((zm16 BK424.out hg : gb427 ≠ gb424))
       have n25_ := Aside0.mk ((zn16 BK428.out hg : gb428 ≠ gb427))
       have n26_ := Aside0.mk ((zm16 BK428.out hg : gb427 ≠ gb428))
       clear HO_397001 HO_397002 HO_406001 HO_406002 HO_415001 HO_415002 HO_425001 HO_425002 BK396 BK405 BK414 BK424 BK428 HB
       have HO_397001 := n0_
       have HO_397002 := n1_
       have HO_406001 := n2_
       have HO_406002 := n3_
       have HO_415001 := n4_
       have HO_415002 := n5_
       have HO_425001 := n6_
       have HO_425002 := n7_
       have BK396 := n8_
       have BK405 := n9_
       have BK414 := n10_
       have BK424 := n11_
       have BK428 := n12_
       have HB := n13_
       have BK427 := n14_
       have GW427 := n15_
       have GE427 := n16_
       have NB396_427 := n17_
       have NB427_396 := n18_
       have NB405_427 := n19_
       have NB427_405 := n20_
       have NB414_427 := n21_
       have NB427_414 := n22_
       have NB424_427 := n23_
       have NB427_424 := n24_
       have NB428_427 := n25_
       have NB427_428 := n26_
       clear n0_ n1_ n2_ n3_ n4_ n5_ n6_ n7_ n8_ n9_ n10_ n11_ n12_ n13_ n14_ n15_ n16_ n17_ n18_ n19_ n20_ n21_ n22_ n23_ n24_ n25_ n26_ hb hbox hg
       refine hK.out _ _ ⟨(blk_cell BK396.out 0).trans rfl, (blk_cell BK396.out 1).trans rfl, (blk_cell BK396.out 2).trans rfl, (blk_cell BK405.out 0).trans rfl, (blk_cell BK405.out 1).trans rfl, (blk_cell BK405.out 2).trans rfl, HS6_, HS7_, HS8_, HS9_, HS10_, HS11_, HS12_, HS13_, HS14_, HS15_⟩ (fun hHeld => ?_)
       clear hK K
       refine norm_ (a' := ?_) ?_ ?_
       rotate_left
       ·show Act.put _ (some 12) _ = _
        simp only [Act.put, List.setIfInBounds_toArray, List.set_cons_zero, List.set_cons_succ, i64_w, i32_w]
        rfl
       exact norm_ (by simp only [putAll, Act.put, List.setIfInBounds_toArray, List.set_cons_zero, List.set_cons_succ]) (hCont (gb427, gb428) _ ⟨hHeld, (by (with_reducible repeat (first | apply Kd.R_alloc | apply Kd.R_drewN | apply Kd.R_drew)); exact Kd.R_mono HO_397001.out (fun _ hk => ⟨hk.1.1.1, ⟨hk.1.1.2.1, ⟨hk.1.1.2.2, ⟨hk.2, hk.1.2⟩⟩⟩⟩)), (zR16 HO_397002.out), (by (with_reducible repeat (first | apply Kd.R_alloc | apply Kd.R_drewN | apply Kd.R_drew)); exact Kd.R_mono HO_406001.out (fun _ hk => ⟨hk.1.1.1, ⟨hk.1.1.2.1, ⟨hk.1.1.2.2, ⟨hk.2, hk.1.2⟩⟩⟩⟩)), (zR16 HO_406002.out), (by (with_reducible repeat (first | apply Kd.R_alloc | apply Kd.R_drewN | apply Kd.R_drew)); exact Kd.R_mono HO_415001.out (fun _ hk => ⟨hk.1.1.1, ⟨hk.1.1.2.1, ⟨hk.1.1.2.2, ⟨hk.2, hk.1.2⟩⟩⟩⟩)), (zR16 HO_415002.out), (by (with_reducible repeat (first | apply Kd.R_alloc | apply Kd.R_drewN | apply Kd.R_drew)); exact Kd.R_mono HO_425001.out (fun _ hk => ⟨hk.1.1.1, ⟨hk.1.1.2.1, ⟨hk.1.1.2.2, ⟨hk.2, hk.1.2⟩⟩⟩⟩)), (zR16 HO_425002.out), (zK16 BK396.out), (zK16 BK405.out), (zK16 BK414.out), (zK16 BK424.out), (zK16 BK427.out), (zK16 BK428.out), GW427.out, GE427.out, NB396_427.out, NB427_396.out, NB405_427.out, NB427_405.out, NB414_427.out, NB427_414.out, NB424_427.out, NB427_424.out, NB428_427.out, NB427_428.out, GW428.out, GE428.out, NB396_428.out, NB428_396.out, NB405_428.out, NB428_405.out, NB414_428.out, NB428_414.out, NB424_428.out, NB428_424.out, (zB16_8)⟩)
     rintro ⟨gb427, gb428⟩ w60 ⟨hS_, h0_, h1_, h2_, h3_, h4_, h5_, h6_, h7_, h8_, h9_, h10_, h11_, h12_, h13_, h14_, h15_, h16_, h17_, h18_, h19_, h20_, h21_, h22_, h23_, h24_, h25_, h26_, h27_, h28_, h29_, h30_, h31_, h32_, h33_, h34_, h35_, h36_⟩
     have n0_ : Aside0 (Kd.R k52 52 w60 w.heap.size (fun k_ => some k_ ≠ (.slice (some ad426) t398.length co17 : Value).ownBlock ∧ some k_ ≠ (.slice Ao25 t407.length co25 : Value).ownBlock ∧ some k_ ≠ (.slice Ao47 t417.length co47 : Value).ownBlock ∧ k_ ≠ gb427 ∧ k_ ≠ gb428) (.slice (some ad425) t389.length co11) t389) := ⟨h0_⟩
     have n1_ : Aside0 (Kd.R k56 56 w60 w.heap.size (fun k_ => some k_ ≠ (.slice Ao18 t401.length co18 : Value).ownBlock ∧ some k_ ≠ (.slice Ao26 t410.length co26 : Value).ownBlock ∧ some k_ ≠ (.slice Ao48 t420.length co48 : Value).ownBlock) (.slice Ao12 t392.length co12) t392) := ⟨h1_⟩
     have n2_ : Aside0 (Kd.R k52 52 w60 w.heap.size (fun k_ => some k_ ≠ (.slice (some ad425) t389.length co11 : Value).ownBlock ∧ some k_ ≠ (.slice Ao25 t407.length co25 : Value).ownBlock ∧ some k_ ≠ (.slice Ao47 t417.length co47 : Value).ownBlock ∧ k_ ≠ gb427 ∧ k_ ≠ gb428) (.slice (some ad426) t398.length co17) t398) := ⟨h2_⟩
     have n3_ : Aside0 (Kd.R k56 56 w60 w.heap.size (fun k_ => some k_ ≠ (.slice Ao12 t392.length co12 : Value).ownBlock ∧ some k_ ≠ (.slice Ao26 t410.length co26 : Value).ownBlock ∧ some k_ ≠ (.slice Ao48 t420.length co48 : Value).ownBlock) (.slice Ao18 t401.length co18) t401) := ⟨h3_⟩
     have n4_ : Aside0 (Kd.R k52 52 w60 w.heap.size (fun k_ => some k_ ≠ (.slice (some ad425) t389.length co11 : Value).ownBlock ∧ some k_ ≠ (.slice (some ad426) t398.length co17 : Value).ownBlock ∧ some k_ ≠ (.slice Ao47 t417.length co47 : Value).ownBlock ∧ k_ ≠ gb427 ∧ k_ ≠ gb428) (.slice Ao25 t407.length co25) t407) := ⟨h4_⟩
     have n5_ : Aside0 (Kd.R k56 56 w60 w.heap.size (fun k_ => some k_ ≠ (.slice Ao12 t392.length co12 : Value).ownBlock ∧ some k_ ≠ (.slice Ao18 t401.length co18 : Value).ownBlock ∧ some k_ ≠ (.slice Ao48 t420.length co48 : Value).ownBlock) (.slice Ao26 t410.length co26) t410) := ⟨h5_⟩
     have n6_ : Aside0 (Kd.R k52 52 w60 w.heap.size (fun k_ => some k_ ≠ (.slice (some ad425) t389.length co11 : Value).ownBlock ∧ some k_ ≠ (.slice (some ad426) t398.length co17 : Value).ownBlock ∧ some k_ ≠ (.slice Ao25 t407.length co25 : Value).ownBlock ∧ k_ ≠ gb427 ∧ k_ ≠ gb428) (.slice Ao47 t417.length co47) t417) := ⟨h6_⟩
     have n7_ : Aside0 (Kd.R k56 56 w60 w.heap.size (fun k_ => some k_ ≠ (.slice Ao12 t392.length co12 : Value).ownBlock ∧ some k_ ≠ (.slice Ao18 t401.length co18 : Value).ownBlock ∧ some k_ ≠ (.slice Ao26 t410.length co26 : Value).ownBlock) (.slice Ao48 t420.length co48) t420) := ⟨h7_⟩
     have n8_ : Aside0 (w60.heap[gb396]? = some (.cells #[.string t388, .slice (some ad425) t389.length co11, .slice Ao12 t392.length co12] 45 (0, 0))) := ⟨h8_⟩
     have n9_ : Aside0 (w60.heap[gb405]? = some (.cells #[.string t397, .slice (some ad426) t398.length co17, .slice Ao18 t401.length co18] 45 (0, 0))) := ⟨h9_⟩
     have n10_ : Aside0 (w60.heap[gb414]? = some (.cells #[.string t406, .slice Ao25 t407.length co25, .slice Ao26 t410.length co26] 45 (0, 0))) := ⟨h10_⟩
     have n11_ : Aside0 (w60.heap[gb424]? = some (.cells #[.string t416, .slice Ao47 t417.length co47, .slice Ao48 t420.length co48] 45 (0, 0))) := ⟨h11_⟩
     have n12_ : Aside0 (w60.heap[gb427]? = some (.cells #[.int .i64 0, .int .i64 0, .int .i64 0, .int .i64 0, .int .i64 0] 52 (0, 0))) := ⟨h12_⟩
     have n13_ : Aside0 (w60.heap[gb428]? = some (.cells #[.int .i64 0, .int .i64 0, .int .i64 0, .int .i64 0, .int .i64 0] 52 (0, 0))) := ⟨h13_⟩
     have n14_ : Aside0 (w.heap.size ≤ gb427) := ⟨h14_⟩
     have n15_ : Aside0 (w.heap.size ≤ gb427) := ⟨h15_⟩
     have n16_ : Aside0 (gb396 ≠ gb427) := ⟨h16_⟩
     have n17_ : Aside0 (gb427 ≠ gb396) := ⟨h17_⟩
     have n18_ : Aside0 (gb405 ≠ gb427) := ⟨h18_⟩
     have n19_ : Aside0 (gb427 ≠ gb405) := ⟨h19_⟩
     have n20_ : Aside0 (gb414 ≠ gb427) := ⟨h20_⟩
     have n21_ : Aside0 (gb427 ≠ gb414) := ⟨h21_⟩
     have n22_ : Aside0 (gb424 ≠ gb427) := ⟨h22_⟩
     have n23_ : Aside0 (gb427 ≠ gb424) := ⟨h23_⟩
     have n24_ : Aside0 (gb428 ≠ gb427) := ⟨h24_⟩
     have n25_ : Aside0 (gb427 ≠ gb428) := ⟨h25_⟩
     have n26_ : Aside0 (w.heap.size ≤ gb428) := ⟨h26_⟩
     have n27_ : Aside0 (w.heap.size ≤ gb428) := ⟨h27_⟩
     have n28_ : Aside0 (gb396 ≠ gb428) := ⟨h28_⟩
     have n29_ : Aside0 (gb428 ≠ gb396) := ⟨h29_⟩
     have n30_ : Aside0 (gb405 ≠ gb428) := ⟨h30_⟩
     have n31_ : Aside0 (gb428 ≠ gb405) := ⟨h31_⟩
     have n32_ : Aside0 (gb414 ≠ gb428) := ⟨h32_⟩
     have n33_ : Aside0 (gb428 ≠ gb414) := ⟨h33_⟩
     have n34_ : Aside0 (gb424 ≠ gb428) := ⟨h34_⟩
     have n35_ : Aside0 (gb428 ≠ gb424) := ⟨h35_⟩
     have n36_ : Aside0 (Below w.heap.size w w60) := ⟨h36_⟩
     clear HO_397001 HO_397002 HO_406001 HO_406002 HO_415001 HO_415002 HO_425001 HO_425002 BK396 BK405 BK414 BK424 HB h0_ h1_ h2_ h3_ h4_ h5_ h6_ h7_ h8_ h9_ h10_ h11_ h12_ h13_ h14_ h15_ h16_ h17_ h18_ h19_ h20_ h21_ h22_ h23_ h24_ h25_ h26_ h27_ h28_ h29_ h30_ h31_ h32_ h33_ h34_ h35_ h36_
     have HO_397001 := n0_
     have HO_397002 := n1_
     have HO_406001 := n2_
     have HO_406002 := n3_
     have HO_415001 := n4_
     have HO_415002 := n5_
     have HO_425001 := n6_
     have HO_425002 := n7_
     have BK396 := n8_
     have BK405 := n9_
     have BK414 := n10_
     have BK424 := n11_
     have BK427 := n12_
     have BK428 := n13_
     have GW427 := n14_
     have GE427 := n15_
     have NB396_427 := n16_
     have NB427_396 := n17_
     have NB405_427 := n18_
     have NB427_405 := n19_
     have NB414_427 := n20_
     have NB427_414 := n21_
     have NB424_427 := n22_
     have NB427_424 := n23_
     have NB428_427 := n24_
     have NB427_428 := n25_
     have GW428 := n26_
     have GE428 := n27_
     have NB396_428 := n28_
     have NB428_396 := n29_
     have NB405_428 := n30_
     have NB428_405 := n31_
     have NB414_428 := n32_
     have NB428_414 := n33_
     have NB424_428 := n34_
     have NB428_424 := n35_
     have HB := n36_
     clear n0_ n1_ n2_ n3_ n4_ n5_ n6_ n7_ n8_ n9_ n10_ n11_ n12_ n13_ n14_ n15_ n16_ n17_ n18_ n19_ n20_ n21_ n22_ n23_ n24_ n25_ n26_ n27_ n28_ n29_ n30_ n31_ n32_ n33_ n34_ n35_ n36_
     have hHeld : w60.cell? ⟨gb396, 0, none⟩ = some (.string t388) ∧ w60.cell? ⟨gb396, 1, none⟩ = some (.slice (some ad425) t389.length co11) ∧ w60.cell? ⟨gb396, 2, none⟩ = some (.slice Ao12 t392.length co12) ∧ w60.cell? ⟨gb405, 0, none⟩ = some (.string t397) ∧ w60.cell? ⟨gb405, 1, none⟩ = some (.slice (some ad426) t398.length co17) ∧ w60.cell? ⟨gb405, 2, none⟩ = some (.slice Ao18 t401.length co18) ∧ w60.cell? (ad425.add ((x11_2).toNat * 5)) = some (.int .i64 ((rd_T52 t389 x11_2).f0)) ∧ w60.cell? ⟨(ad425.add ((x11_2).toNat * 5)).block, (ad425.add ((x11_2).toNat * 5)).off + 1, none⟩ = some (.int .i64 ((rd_T52 t389 x11_2).f1)) ∧ w60.cell? ⟨(ad425.add ((x11_2).toNat * 5)).block, (ad425.add ((x11_2).toNat * 5)).off + 2, none⟩ = some (.int .i64 ((rd_T52 t389 x11_2).f2)) ∧ w60.cell? ⟨(ad425.add ((x11_2).toNat * 5)).block, (ad425.add ((x11_2).toNat * 5)).off + 3, none⟩ = some (.int .i64 ((rd_T52 t389 x11_2).f3)) ∧ w60.cell? ⟨(ad425.add ((x11_2).toNat * 5)).block, (ad425.add ((x11_2).toNat * 5)).off + 4, none⟩ = some (.int .i64 ((rd_T52 t389 x11_2).f4)) ∧ w60.cell? (ad426.add ((x11_2).toNat * 5)) = some (.int .i64 ((rd_T52 t398 x11_2).f0)) ∧ w60.cell? ⟨(ad426.add ((x11_2).toNat * 5)).block, (ad426.add ((x11_2).toNat * 5)).off + 1, none⟩ = some (.int .i64 ((rd_T52 t398 x11_2).f1)) ∧ w60.cell? ⟨(ad426.add ((x11_2).toNat * 5)).block, (ad426.add ((x11_2).toNat * 5)).off + 2, none⟩ = some (.int .i64 ((rd_T52 t398 x11_2).f2)) ∧ w60.cell? ⟨(ad426.add ((x11_2).toNat * 5)).block, (ad426.add ((x11_2).toNat * 5)).off + 3, none⟩ = some (.int .i64 ((rd_T52 t398 x11_2).f3)) ∧ w60.cell? ⟨(ad426.add ((x11_2).toNat * 5)).block, (ad426.add ((x11_2).toNat * 5)).off + 4, none⟩ = some (.int .i64 ((rd_T52 t398 x11_2).f4)) := hS_
     refine norm_ (a' := ?_) ?_ ?_
     rotate_left
     ·simp only [putAll, Act.put, List.setIfInBounds_toArray, List.set_cons_zero, List.set_cons_succ]
      rfl
     refine one_ (i := 12) (N := none) #[true, true, true, true, true, true, true, true, true, true, true, true, true, false] rfl rfl (one_of HT_.out (by kernel_rfl)) (by decide) (fun K hK => ?_)
     have hs61 : w60.cell? ⟨gb427, 0, none⟩ = some (.int .i64 0) := (blk_cell BK427.out 0).trans rfl
     have hfs61 := blk_frozen BK427.out 0
     have hns61_0 := NB396_427.out
     have hns61_1 := NB405_427.out
     have hns61_2 := NB414_427.out
     have hns61_3 := NB424_427.out
     have hns61_5 := NB428_427.out
     have hms61_0 := NB427_396.out
     have hms61_1 := NB427_405.out
     have hms61_2 := NB427_414.out
     have hms61_3 := NB427_424.out
     have hms61_5 := NB427_428.out
     have hs62 : w60.cell? ⟨gb427, 1, none⟩ = some (.int .i64 0) := (blk_cell BK427.out 1).trans rfl
     have hfs62 := blk_frozen BK427.out 1
     have hns62_0 := NB396_427.out
     have hns62_1 := NB405_427.out
     have hns62_2 := NB414_427.out
     have hns62_3 := NB424_427.out
     have hns62_5 := NB428_427.out
     have hms62_0 := NB427_396.out
     have hms62_1 := NB427_405.out
     have hms62_2 := NB427_414.out
     have hms62_3 := NB427_424.out
     have hms62_5 := NB427_428.out
     have hs63 : w60.cell? ⟨gb427, 2, none⟩ = some (.int .i64 0) := (blk_cell BK427.out 2).trans rfl
     have hfs63 := blk_frozen BK427.out 2
     have hns63_0 := NB396_427.out
     have hns63_1 := NB405_427.out
     have hns63_2 := NB414_427.out
     have hns63_3 := NB424_427.out
     have hns63_5 := NB428_427.out
     have hms63_0 := NB427_396.out
     have hms63_1 := NB427_405.out
     have hms63_2 := NB427_414.out
     have hms63_3 := NB427_424.out
     have hms63_5 := NB427_428.out
     have hs64 : w60.cell? ⟨gb427, 3, none⟩ = some (.int .i64 0) := (blk_cell BK427.out 3).trans rfl
     have hfs64 := blk_frozen BK427.out 3
     have hns64_0 := NB396_427.out
     have hns64_1 := NB405_427.out
     have hns64_2 := NB414_427.out
     have hns64_3 := NB424_427.out
     have hns64_5 := NB428_427.out
     have hms64_0 := NB427_396.out
     have hms64_1 := NB427_405.out
     have hms64_2 := NB427_414.out
     have hms64_3 := NB427_424.out
     have hms64_5 := NB427_428.out
     have hs65 : w60.cell? ⟨gb427, 4, none⟩ = some (.int .i64 0) := (blk_cell BK427.out 4).trans rfl
     have hfs65 := blk_frozen BK427.out 4
     have hns65_0 := NB396_427.out
     have hns65_1 := NB405_427.out
     have hns65_2 := NB414_427.out
     have hns65_3 := NB424_427.out
     have hns65_5 := NB428_427.out
     have hms65_0 := NB427_396.out
     have hms65_1 := NB427_405.out
     have hms65_2 := NB427_414.out
     have hms65_3 := NB427_424.out
     have hms65_5 := NB427_428.out
     refine skip_ (w1 := ?_) (by rfl) rfl ?_ ?_
     rotate_left
     ·go_simp
      rfl
     refine hK.out _ _ ⟨((cell_far (p := ⟨gb427, _, none⟩) NB396_427.out _).trans (((cell_far (p := ⟨gb427, _, none⟩) NB396_427.out _).trans (((cell_far (p := ⟨gb427, _, none⟩) NB396_427.out _).trans (((cell_far (p := ⟨gb427, _, none⟩) NB396_427.out _).trans (((cell_far (p := ⟨gb427, _, none⟩) NB396_427.out _).trans (hHeld.1)))))))))), ((cell_far (p := ⟨gb427, _, none⟩) NB396_427.out _).trans (((cell_far (p := ⟨gb427, _, none⟩) NB396_427.out _).trans (((cell_far (p := ⟨gb427, _, none⟩) NB396_427.out _).trans (((cell_far (p := ⟨gb427, _, none⟩) NB396_427.out _).trans (((cell_far (p := ⟨gb427, _, none⟩) NB396_427.out _).trans (hHeld.2.1)))))))))), ((cell_far (p := ⟨gb427, _, none⟩) NB396_427.out _).trans (((cell_far (p := ⟨gb427, _, none⟩) NB396_427.out _).trans (((cell_far (p := ⟨gb427, _, none⟩) NB396_427.out _).trans (((cell_far (p := ⟨gb427, _, none⟩) NB396_427.out _).trans (((cell_far (p := ⟨gb427, _, none⟩) NB396_427.out _).trans (hHeld.2.2.1)))))))))), ((cell_far (p := ⟨gb427, _, none⟩) NB405_427.out _).trans (((cell_far (p := ⟨gb427, _, none⟩) NB405_427.out _).trans (((cell_far (p := ⟨gb427, _, none⟩) NB405_427.out _).trans (((cell_far (p := ⟨gb427, _, none⟩) NB405_427.out _).trans (((cell_far (p := ⟨gb427, _, none⟩) NB405_427.out _).trans (hHeld.2.2.2.1)))))))))), ((cell_far (p := ⟨gb427, _, none⟩) NB405_427.out _).trans (((cell_far (p := ⟨gb427, _, none⟩) NB405_427.out _).trans (((cell_far (p := ⟨gb427, _, none⟩) NB405_427.out _).trans (((cell_far (p := ⟨gb427, _, none⟩) NB405_427.out _).trans (((cell_far (p := ⟨gb427, _, none⟩) NB405_427.out _).trans (hHeld.2.2.2.2.1)))))))))), ((cell_far (p := ⟨gb427, _, none⟩) NB405_427.out _).trans (((cell_far (p := ⟨gb427, _, none⟩) NB405_427.out _).trans (((cell_far (p := ⟨gb427, _, none⟩) NB405_427.out _).trans (((cell_far (p := ⟨gb427, _, none⟩) NB405_427.out _).trans (((cell_far (p := ⟨gb427, _, none⟩) NB405_427.out _).trans (hHeld.2.2.2.2.2.1)))))))))), ((cell_far (p := ⟨gb427, _, none⟩) (by first | exact Kd.own_blk (Kd.R_away HO_397001.out (fun _ hk => hk.2.2.2.1)) | (rw [add_block]; exact Kd.own_blk (Kd.R_away HO_397001.out (fun _ hk => hk.2.2.2.1))) | (show (Addr.add _ _).block ≠ _; rw [add_block]; exact Kd.own_blk (Kd.R_away HO_397001.out (fun _ hk => hk.2.2.2.1))) | (dsimp only; exact Kd.own_blk (Kd.R_away HO_397001.out (fun _ hk => hk.2.2.2.1)))) _).trans (((cell_far (p := ⟨gb427, _, none⟩) (by first | exact Kd.own_blk (Kd.R_away HO_397001.out (fun _ hk => hk.2.2.2.1)) | (rw [add_block]; exact Kd.own_blk (Kd.R_away HO_397001.out (fun _ hk => hk.2.2.2.1))) | (show (Addr.add _ _).block ≠ _; rw [add_block]; exact Kd.own_blk (Kd.R_away HO_397001.out (fun _ hk => hk.2.2.2.1))) | (dsimp only; exact Kd.own_blk (Kd.R_away HO_397001.out (fun _ hk => hk.2.2.2.1)))) _).trans (((cell_far (p := ⟨gb427, _, none⟩) (by first | exact Kd.own_blk (Kd.R_away HO_397001.out (fun _ hk => hk.2.2.2.1)) | (rw [add_block]; exact Kd.own_blk (Kd.R_away HO_397001.out (fun _ hk => hk.2.2.2.1))) | (show (Addr.add _ _).block ≠ _; rw [add_block]; exact Kd.own_blk (Kd.R_away HO_397001.out (fun _ hk => hk.2.2.2.1))) | (dsimp only; exact Kd.own_blk (Kd.R_away HO_397001.out (fun _ hk => hk.2.2.2.1)))) _).trans (((cell_far (p := ⟨gb427, _, none⟩) (by first | exact Kd.own_blk (Kd.R_away HO_397001.out (fun _ hk => hk.2.2.2.1)) | (rw [add_block]; exact Kd.own_blk (Kd.R_away HO_397001.out (fun _ hk => hk.2.2.2.1))) | (show (Addr.add _ _).block ≠ _; rw [add_block]; exact Kd.own_blk (Kd.R_away HO_397001.out (fun _ hk => hk.2.2.2.1))) | (dsimp only; exact Kd.own_blk (Kd.R_away HO_397001.out (fun _ hk => hk.2.2.2.1)))) _).trans (((cell_far (p := ⟨gb427, _, none⟩) (by first | exact Kd.own_blk (Kd.R_away HO_397001.out (fun _ hk => hk.2.2.2.1)) | (rw [add_block]; exact Kd.own_blk (Kd.R_away HO_397001.out (fun _ hk => hk.2.2.2.1))) | (show (Addr.add _ _).block ≠ _; rw [add_block]; exact Kd.own_blk (Kd.R_away HO_397001.out (fun _ hk => hk.2.2.2.1))) | (dsimp only; exact Kd.own_blk (Kd.R_away HO_397001.out (fun _ hk => hk.2.2.2.1)))) _).trans (hHeld.2.2.2.2.2.2.1)))))))))), ((cell_far (p := ⟨gb427, _, none⟩) (by first | exact Kd.own_blk (Kd.R_away HO_397001.out (fun _ hk => hk.2.2.2.1)) | (rw [add_block]; exact Kd.own_blk (Kd.R_away HO_397001.out (fun _ hk => hk.2.2.2.1))) | (show (Addr.add _ _).block ≠ _; rw [add_block]; exact Kd.own_blk (Kd.R_away HO_397001.out (fun _ hk => hk.2.2.2.1))) | (dsimp only; exact Kd.own_blk (Kd.R_away HO_397001.out (fun _ hk => hk.2.2.2.1)))) _).trans (((cell_far (p := ⟨gb427, _, none⟩) (by first | exact Kd.own_blk (Kd.R_away HO_397001.out (fun _ hk => hk.2.2.2.1)) | (rw [add_block]; exact Kd.own_blk (Kd.R_away HO_397001.out (fun _ hk => hk.2.2.2.1))) | (show (Addr.add _ _).block ≠ _; rw [add_block]; exact Kd.own_blk (Kd.R_away HO_397001.out (fun _ hk => hk.2.2.2.1))) | (dsimp only; exact Kd.own_blk (Kd.R_away HO_397001.out (fun _ hk => hk.2.2.2.1)))) _).trans (((cell_far (p := ⟨gb427, _, none⟩) (by first | exact Kd.own_blk (Kd.R_away HO_397001.out (fun _ hk => hk.2.2.2.1)) | (rw [add_block]; exact Kd.own_blk (Kd.R_away HO_397001.out (fun _ hk => hk.2.2.2.1))) | (show (Addr.add _ _).block ≠ _; rw [add_block]; exact Kd.own_blk (Kd.R_away HO_397001.out (fun _ hk => hk.2.2.2.1))) | (dsimp only; exact Kd.own_blk (Kd.R_away HO_397001.out (fun _ hk => hk.2.2.2.1)))) _).trans (((cell_far (p := ⟨gb427, _, none⟩) (by first | exact Kd.own_blk (Kd.R_away HO_397001.out (fun _ hk => hk.2.2.2.1)) | (rw [add_block]; exact Kd.own_blk (Kd.R_away HO_397001.out (fun _ hk => hk.2.2.2.1))) | (show (Addr.add _ _).block ≠ _; rw [add_block]; exact Kd.own_blk (Kd.R_away HO_397001.out (fun _ hk => hk.2.2.2.1))) | (dsimp only; exact Kd.own_blk (Kd.R_away HO_397001.out (fun _ hk => hk.2.2.2.1)))) _).trans (((cell_far (p := ⟨gb427, _, none⟩) (by first | exact Kd.own_blk (Kd.R_away HO_397001.out (fun _ hk => hk.2.2.2.1)) | (rw [add_block]; exact Kd.own_blk (Kd.R_away HO_397001.out (fun _ hk => hk.2.2.2.1))) | (show (Addr.add _ _).block ≠ _; rw [add_block]; exact Kd.own_blk (Kd.R_away HO_397001.out (fun _ hk => hk.2.2.2.1))) | (dsimp only; exact Kd.own_blk (Kd.R_away HO_397001.out (fun _ hk => hk.2.2.2.1)))) _).trans (hHeld.2.2.2.2.2.2.2.1)))))))))), ((cell_far (p := ⟨gb427, _, none⟩) (by first | exact Kd.own_blk (Kd.R_away HO_397001.out (fun _ hk => hk.2.2.2.1)) | (rw [add_block]; exact Kd.own_blk (Kd.R_away HO_397001.out (fun _ hk => hk.2.2.2.1))) | (show (Addr.add _ _).block ≠ _; rw [add_block]; exact Kd.own_blk (Kd.R_away HO_397001.out (fun _ hk => hk.2.2.2.1))) | (dsimp only; exact Kd.own_blk (Kd.R_away HO_397001.out (fun _ hk => hk.2.2.2.1)))) _).trans (((cell_far (p := ⟨gb427, _, none⟩) (by first | exact Kd.own_blk (Kd.R_away HO_397001.out (fun _ hk => hk.2.2.2.1)) | (rw [add_block]; exact Kd.own_blk (Kd.R_away HO_397001.out (fun _ hk => hk.2.2.2.1))) | (show (Addr.add _ _).block ≠ _; rw [add_block]; exact Kd.own_blk (Kd.R_away HO_397001.out (fun _ hk => hk.2.2.2.1))) | (dsimp only; exact Kd.own_blk (Kd.R_away HO_397001.out (fun _ hk => hk.2.2.2.1)))) _).trans (((cell_far (p := ⟨gb427, _, none⟩) (by first | exact Kd.own_blk (Kd.R_away HO_397001.out (fun _ hk => hk.2.2.2.1)) | (rw [add_block]; exact Kd.own_blk (Kd.R_away HO_397001.out (fun _ hk => hk.2.2.2.1))) | (show (Addr.add _ _).block ≠ _; rw [add_block]; exact Kd.own_blk (Kd.R_away HO_397001.out (fun _ hk => hk.2.2.2.1))) | (dsimp only; exact Kd.own_blk (Kd.R_away HO_397001.out (fun _ hk => hk.2.2.2.1)))) _).trans (((cell_far (p := ⟨gb427, _, none⟩) (by first | exact Kd.own_blk (Kd.R_away HO_397001.out (fun _ hk => hk.2.2.2.1)) | (rw [add_block]; exact Kd.own_blk (Kd.R_away HO_397001.out (fun _ hk => hk.2.2.2.1))) | (show (Addr.add _ _).block ≠ _; rw [add_block]; exact Kd.own_blk (Kd.R_away HO_397001.out (fun _ hk => hk.2.2.2.1))) | (dsimp only; exact Kd.own_blk (Kd.R_away HO_397001.out (fun _ hk => hk.2.2.2.1)))) _).trans (((cell_far (p := ⟨gb427, _, none⟩) (by first | exact Kd.own_blk (Kd.R_away HO_397001.out (fun _ hk => hk.2.2.2.1)) | (rw [add_block]; exact Kd.own_blk (Kd.R_away HO_397001.out (fun _ hk => hk.2.2.2.1))) | (show (Addr.add _ _).block ≠ _; rw [add_block]; exact Kd.own_blk (Kd.R_away HO_397001.out (fun _ hk => hk.2.2.2.1))) | (dsimp only; exact Kd.own_blk (Kd.R_away HO_397001.out (fun _ hk => hk.2.2.2.1)))) _).trans (hHeld.2.2.2.2.2.2.2.2.1)))))))))), ((cell_far (p := ⟨gb427, _, none⟩) (by first | exact Kd.own_blk (Kd.R_away HO_397001.out (fun _ hk => hk.2.2.2.1)) | (rw [add_block]; exact Kd.own_blk (Kd.R_away HO_397001.out (fun _ hk => hk.2.2.2.1))) | (show (Addr.add _ _).block ≠ _; rw [add_block]; exact Kd.own_blk (Kd.R_away HO_397001.out (fun _ hk => hk.2.2.2.1))) | (dsimp only; exact Kd.own_blk (Kd.R_away HO_397001.out (fun _ hk => hk.2.2.2.1)))) _).trans (((cell_far (p := ⟨gb427, _, none⟩) (by first | exact Kd.own_blk (Kd.R_away HO_397001.out (fun _ hk => hk.2.2.2.1)) | (rw [add_block]; exact Kd.own_blk (Kd.R_away HO_397001.out (fun _ hk => hk.2.2.2.1))) | (show (Addr.add _ _).block ≠ _; rw [add_block]; exact Kd.own_blk (Kd.R_away HO_397001.out (fun _ hk => hk.2.2.2.1))) | (dsimp only; exact Kd.own_blk (Kd.R_away HO_397001.out (fun _ hk => hk.2.2.2.1)))) _).trans (((cell_far (p := ⟨gb427, _, none⟩) (by first | exact Kd.own_blk (Kd.R_away HO_397001.out (fun _ hk => hk.2.2.2.1)) | (rw [add_block]; exact Kd.own_blk (Kd.R_away HO_397001.out (fun _ hk => hk.2.2.2.1))) | (show (Addr.add _ _).block ≠ _; rw [add_block]; exact Kd.own_blk (Kd.R_away HO_397001.out (fun _ hk => hk.2.2.2.1))) | (dsimp only; exact Kd.own_blk (Kd.R_away HO_397001.out (fun _ hk => hk.2.2.2.1)))) _).trans (((cell_far (p := ⟨gb427, _, none⟩) (by first | exact Kd.own_blk (Kd.R_away HO_397001.out (fun _ hk => hk.2.2.2.1)) | (rw [add_block]; exact Kd.own_blk (Kd.R_away HO_397001.out (fun _ hk => hk.2.2.2.1))) | (show (Addr.add _ _).block ≠ _; rw [add_block]; exact Kd.own_blk (Kd.R_away HO_397001.out (fun _ hk => hk.2.2.2.1))) | (dsimp only; exact Kd.own_blk (Kd.R_away HO_397001.out (fun _ hk => hk.2.2.2.1)))) _).trans (((cell_far (p := ⟨gb427, _, none⟩) (by first | exact Kd.own_blk (Kd.R_away HO_397001.out (fun _ hk => hk.2.2.2.1)) | (rw [add_block]; exact Kd.own_blk (Kd.R_away HO_397001.out (fun _ hk => hk.2.2.2.1))) | (show (Addr.add _ _).block ≠ _; rw [add_block]; exact Kd.own_blk (Kd.R_away HO_397001.out (fun _ hk => hk.2.2.2.1))) | (dsimp only; exact Kd.own_blk (Kd.R_away HO_397001.out (fun _ hk => hk.2.2.2.1)))) _).trans (hHeld.2.2.2.2.2.2.2.2.2.1)))))))))), ((cell_far (p := ⟨gb427, _, none⟩) (by first | exact Kd.own_blk (Kd.R_away HO_397001.out (fun _ hk => hk.2.2.2.1)) | (rw [add_block]; exact Kd.own_blk (Kd.R_away HO_397001.out (fun _ hk => hk.2.2.2.1))) | (show (Addr.add _ _).block ≠ _; rw [add_block]; exact Kd.own_blk (Kd.R_away HO_397001.out (fun _ hk => hk.2.2.2.1))) | (dsimp only; exact Kd.own_blk (Kd.R_away HO_397001.out (fun _ hk => hk.2.2.2.1)))) _).trans (((cell_far (p := ⟨gb427, _, none⟩) (by first | exact Kd.own_blk (Kd.R_away HO_397001.out (fun _ hk => hk.2.2.2.1)) | (rw [add_block]; exact Kd.own_blk (Kd.R_away HO_397001.out (fun _ hk => hk.2.2.2.1))) | (show (Addr.add _ _).block ≠ _; rw [add_block]; exact Kd.own_blk (Kd.R_away HO_397001.out (fun _ hk => hk.2.2.2.1))) | (dsimp only; exact Kd.own_blk (Kd.R_away HO_397001.out (fun _ hk => hk.2.2.2.1)))) _).trans (((cell_far (p := ⟨gb427, _, none⟩) (by first | exact Kd.own_blk (Kd.R_away HO_397001.out (fun _ hk => hk.2.2.2.1)) | (rw [add_block]; exact Kd.own_blk (Kd.R_away HO_397001.out (fun _ hk => hk.2.2.2.1))) | (show (Addr.add _ _).block ≠ _; rw [add_block]; exact Kd.own_blk (Kd.R_away HO_397001.out (fun _ hk => hk.2.2.2.1))) | (dsimp only; exact Kd.own_blk (Kd.R_away HO_397001.out (fun _ hk => hk.2.2.2.1)))) _).trans (((cell_far (p := ⟨gb427, _, none⟩) (by first | exact Kd.own_blk (Kd.R_away HO_397001.out (fun _ hk => hk.2.2.2.1)) | (rw [add_block]; exact Kd.own_blk (Kd.R_away HO_397001.out (fun _ hk => hk.2.2.2.1))) | (show (Addr.add _ _).block ≠ _; rw [add_block]; exact Kd.own_blk (Kd.R_away HO_397001.out (fun _ hk => hk.2.2.2.1))) | (dsimp only; exact Kd.own_blk (Kd.R_away HO_397001.out (fun _ hk => hk.2.2.2.1)))) _).trans (((cell_far (p := ⟨gb427, _, none⟩) (by first | exact Kd.own_blk (Kd.R_away HO_397001.out (fun _ hk => hk.2.2.2.1)) | (rw [add_block]; exact Kd.own_blk (Kd.R_away HO_397001.out (fun _ hk => hk.2.2.2.1))) | (show (Addr.add _ _).block ≠ _; rw [add_block]; exact Kd.own_blk (Kd.R_away HO_397001.out (fun _ hk => hk.2.2.2.1))) | (dsimp only; exact Kd.own_blk (Kd.R_away HO_397001.out (fun _ hk => hk.2.2.2.1)))) _).trans (hHeld.2.2.2.2.2.2.2.2.2.2.1)))))))))), ((cell_far (p := ⟨gb427, _, none⟩) (by first | exact Kd.own_blk (Kd.R_away HO_406001.out (fun _ hk => hk.2.2.2.1)) | (rw [add_block]; exact Kd.own_blk (Kd.R_away HO_406001.out (fun _ hk => hk.2.2.2.1))) | (show (Addr.add _ _).block ≠ _; rw [add_block]; exact Kd.own_blk (Kd.R_away HO_406001.out (fun _ hk => hk.2.2.2.1))) | (dsimp only; exact Kd.own_blk (Kd.R_away HO_406001.out (fun _ hk => hk.2.2.2.1)))) _).trans (((cell_far (p := ⟨gb427, _, none⟩) (by first | exact Kd.own_blk (Kd.R_away HO_406001.out (fun _ hk => hk.2.2.2.1)) | (rw [add_block]; exact Kd.own_blk (Kd.R_away HO_406001.out (fun _ hk => hk.2.2.2.1))) | (show (Addr.add _ _).block ≠ _; rw [add_block]; exact Kd.own_blk (Kd.R_away HO_406001.out (fun _ hk => hk.2.2.2.1))) | (dsimp only; exact Kd.own_blk (Kd.R_away HO_406001.out (fun _ hk => hk.2.2.2.1)))) _).trans (((cell_far (p := ⟨gb427, _, none⟩) (by first | exact Kd.own_blk (Kd.R_away HO_406001.out (fun _ hk => hk.2.2.2.1)) | (rw [add_block]; exact Kd.own_blk (Kd.R_away HO_406001.out (fun _ hk => hk.2.2.2.1))) | (show (Addr.add _ _).block ≠ _; rw [add_block]; exact Kd.own_blk (Kd.R_away HO_406001.out (fun _ hk => hk.2.2.2.1))) | (dsimp only; exact Kd.own_blk (Kd.R_away HO_406001.out (fun _ hk => hk.2.2.2.1)))) _).trans (((cell_far (p := ⟨gb427, _, none⟩) (by first | exact Kd.own_blk (Kd.R_away HO_406001.out (fun _ hk => hk.2.2.2.1)) | (rw [add_block]; exact Kd.own_blk (Kd.R_away HO_406001.out (fun _ hk => hk.2.2.2.1))) | (show (Addr.add _ _).block ≠ _; rw [add_block]; exact Kd.own_blk (Kd.R_away HO_406001.out (fun _ hk => hk.2.2.2.1))) | (dsimp only; exact Kd.own_blk (Kd.R_away HO_406001.out (fun _ hk => hk.2.2.2.1)))) _).trans (((cell_far (p := ⟨gb427, _, none⟩) (by first | exact Kd.own_blk (Kd.R_away HO_406001.out (fun _ hk => hk.2.2.2.1)) | (rw [add_block]; exact Kd.own_blk (Kd.R_away HO_406001.out (fun _ hk => hk.2.2.2.1))) | (show (Addr.add _ _).block ≠ _; rw [add_block]; exact Kd.own_blk (Kd.R_away HO_406001.out (fun _ hk => hk.2.2.2.1))) | (dsimp only; exact Kd.own_blk (Kd.R_away HO_406001.out (fun _ hk => hk.2.2.2.1)))) _).trans (hHeld.2.2.2.2.2.2.2.2.2.2.2.1)))))))))), ((cell_far (p := ⟨gb427, _, none⟩) (by first | exact Kd.own_blk (Kd.R_away HO_406001.out (fun _ hk => hk.2.2.2.1)) | (rw [add_block]; exact Kd.own_blk (Kd.R_away HO_406001.out (fun _ hk => hk.2.2.2.1))) | (show (Addr.add _ _).block ≠ _; rw [add_block]; exact Kd.own_blk (Kd.R_away HO_406001.out (fun _ hk => hk.2.2.2.1))) | (dsimp only; exact Kd.own_blk (Kd.R_away HO_406001.out (fun _ hk => hk.2.2.2.1)))) _).trans (((cell_far (p := ⟨gb427, _, none⟩) (by first | exact Kd.own_blk (Kd.R_away HO_406001.out (fun _ hk => hk.2.2.2.1)) | (rw [add_block]; exact Kd.own_blk (Kd.R_away HO_406001.out (fun _ hk => hk.2.2.2.1))) | (show (Addr.add _ _).block ≠ _; rw [add_block]; exact Kd.own_blk (Kd.R_away HO_406001.out (fun _ hk => hk.2.2.2.1))) | (dsimp only; exact Kd.own_blk (Kd.R_away HO_406001.out (fun _ hk => hk.2.2.2.1)))) _).trans (((cell_far (p := ⟨gb427, _, none⟩) (by first | exact Kd.own_blk (Kd.R_away HO_406001.out (fun _ hk => hk.2.2.2.1)) | (rw [add_block]; exact Kd.own_blk (Kd.R_away HO_406001.out (fun _ hk => hk.2.2.2.1))) | (show (Addr.add _ _).block ≠ _; rw [add_block]; exact Kd.own_blk (Kd.R_away HO_406001.out (fun _ hk => hk.2.2.2.1))) | (dsimp only; exact Kd.own_blk (Kd.R_away HO_406001.out (fun _ hk => hk.2.2.2.1)))) _).trans (((cell_far (p := ⟨gb427, _, none⟩) (by first | exact Kd.own_blk (Kd.R_away HO_406001.out (fun _ hk => hk.2.2.2.1)) | (rw [add_block]; exact Kd.own_blk (Kd.R_away HO_406001.out (fun _ hk => hk.2.2.2.1))) | (show (Addr.add _ _).block ≠ _; rw [add_block]; exact Kd.own_blk (Kd.R_away HO_406001.out (fun _ hk => hk.2.2.2.1))) | (dsimp only; exact Kd.own_blk (Kd.R_away HO_406001.out (fun _ hk => hk.2.2.2.1)))) _).trans (((cell_far (p := ⟨gb427, _, none⟩) (by first | exact Kd.own_blk (Kd.R_away HO_406001.out (fun _ hk => hk.2.2.2.1)) | (rw [add_block]; exact Kd.own_blk (Kd.R_away HO_406001.out (fun _ hk => hk.2.2.2.1))) | (show (Addr.add _ _).block ≠ _; rw [add_block]; exact Kd.own_blk (Kd.R_away HO_406001.out (fun _ hk => hk.2.2.2.1))) | (dsimp only; exact Kd.own_blk (Kd.R_away HO_406001.out (fun _ hk => hk.2.2.2.1)))) _).trans (hHeld.2.2.2.2.2.2.2.2.2.2.2.2.1)))))))))), ((cell_far (p := ⟨gb427, _, none⟩) (by first | exact Kd.own_blk (Kd.R_away HO_406001.out (fun _ hk => hk.2.2.2.1)) | (rw [add_block]; exact Kd.own_blk (Kd.R_away HO_406001.out (fun _ hk => hk.2.2.2.1))) | (show (Addr.add _ _).block ≠ _; rw [add_block]; exact Kd.own_blk (Kd.R_away HO_406001.out (fun _ hk => hk.2.2.2.1))) | (dsimp only; exact Kd.own_blk (Kd.R_away HO_406001.out (fun _ hk => hk.2.2.2.1)))) _).trans (((cell_far (p := ⟨gb427, _, none⟩) (by first | exact Kd.own_blk (Kd.R_away HO_406001.out (fun _ hk => hk.2.2.2.1)) | (rw [add_block]; exact Kd.own_blk (Kd.R_away HO_406001.out (fun _ hk => hk.2.2.2.1))) | (show (Addr.add _ _).block ≠ _; rw [add_block]; exact Kd.own_blk (Kd.R_away HO_406001.out (fun _ hk => hk.2.2.2.1))) | (dsimp only; exact Kd.own_blk (Kd.R_away HO_406001.out (fun _ hk => hk.2.2.2.1)))) _).trans (((cell_far (p := ⟨gb427, _, none⟩) (by first | exact Kd.own_blk (Kd.R_away HO_406001.out (fun _ hk => hk.2.2.2.1)) | (rw [add_block]; exact Kd.own_blk (Kd.R_away HO_406001.out (fun _ hk => hk.2.2.2.1))) | (show (Addr.add _ _).block ≠ _; rw [add_block]; exact Kd.own_blk (Kd.R_away HO_406001.out (fun _ hk => hk.2.2.2.1))) | (dsimp only; exact Kd.own_blk (Kd.R_away HO_406001.out (fun _ hk => hk.2.2.2.1)))) _).trans (((cell_far (p := ⟨gb427, _, none⟩) (by first | exact Kd.own_blk (Kd.R_away HO_406001.out (fun _ hk => hk.2.2.2.1)) | (rw [add_block]; exact Kd.own_blk (Kd.R_away HO_406001.out (fun _ hk => hk.2.2.2.1))) | (show (Addr.add _ _).block ≠ _; rw [add_block]; exact Kd.own_blk (Kd.R_away HO_406001.out (fun _ hk => hk.2.2.2.1))) | (dsimp only; exact Kd.own_blk (Kd.R_away HO_406001.out (fun _ hk => hk.2.2.2.1)))) _).trans (((cell_far (p := ⟨gb427, _, none⟩) (by first | exact Kd.own_blk (Kd.R_away HO_406001.out (fun _ hk => hk.2.2.2.1)) | (rw [add_block]; exact Kd.own_blk (Kd.R_away HO_406001.out (fun _ hk => hk.2.2.2.1))) | (show (Addr.add _ _).block ≠ _; rw [add_block]; exact Kd.own_blk (Kd.R_away HO_406001.out (fun _ hk => hk.2.2.2.1))) | (dsimp only; exact Kd.own_blk (Kd.R_away HO_406001.out (fun _ hk => hk.2.2.2.1)))) _).trans (hHeld.2.2.2.2.2.2.2.2.2.2.2.2.2.1)))))))))), ((cell_far (p := ⟨gb427, _, none⟩) (by first | exact Kd.own_blk (Kd.R_away HO_406001.out (fun _ hk => hk.2.2.2.1)) | (rw [add_block]; exact Kd.own_blk (Kd.R_away HO_406001.out (fun _ hk => hk.2.2.2.1))) | (show (Addr.add _ _).block ≠ _; rw [add_block]; exact Kd.own_blk (Kd.R_away HO_406001.out (fun _ hk => hk.2.2.2.1))) | (dsimp only; exact Kd.own_blk (Kd.R_away HO_406001.out (fun _ hk => hk.2.2.2.1)))) _).trans (((cell_far (p := ⟨gb427, _, none⟩) (by first | exact Kd.own_blk (Kd.R_away HO_406001.out (fun _ hk => hk.2.2.2.1)) | (rw [add_block]; exact Kd.own_blk (Kd.R_away HO_406001.out (fun _ hk => hk.2.2.2.1))) | (show (Addr.add _ _).block ≠ _; rw [add_block]; exact Kd.own_blk (Kd.R_away HO_406001.out (fun _ hk => hk.2.2.2.1))) | (dsimp only; exact Kd.own_blk (Kd.R_away HO_406001.out (fun _ hk => hk.2.2.2.1)))) _).trans (((cell_far (p := ⟨gb427, _, none⟩) (by first | exact Kd.own_blk (Kd.R_away HO_406001.out (fun _ hk => hk.2.2.2.1)) | (rw [add_block]; exact Kd.own_blk (Kd.R_away HO_406001.out (fun _ hk => hk.2.2.2.1))) | (show (Addr.add _ _).block ≠ _; rw [add_block]; exact Kd.own_blk (Kd.R_away HO_406001.out (fun _ hk => hk.2.2.2.1))) | (dsimp only; exact Kd.own_blk (Kd.R_away HO_406001.out (fun _ hk => hk.2.2.2.1)))) _).trans (((cell_far (p := ⟨gb427, _, none⟩) (by first | exact Kd.own_blk (Kd.R_away HO_406001.out (fun _ hk => hk.2.2.2.1)) | (rw [add_block]; exact Kd.own_blk (Kd.R_away HO_406001.out (fun _ hk => hk.2.2.2.1))) | (show (Addr.add _ _).block ≠ _; rw [add_block]; exact Kd.own_blk (Kd.R_away HO_406001.out (fun _ hk => hk.2.2.2.1))) | (dsimp only; exact Kd.own_blk (Kd.R_away HO_406001.out (fun _ hk => hk.2.2.2.1)))) _).trans (((cell_far (p := ⟨gb427, _, none⟩) (by first | exact Kd.own_blk (Kd.R_away HO_406001.out (fun _ hk => hk.2.2.2.1)) | (rw [add_block]; exact Kd.own_blk (Kd.R_away HO_406001.out (fun _ hk => hk.2.2.2.1))) | (show (Addr.add _ _).block ≠ _; rw [add_block]; exact Kd.own_blk (Kd.R_away HO_406001.out (fun _ hk => hk.2.2.2.1))) | (dsimp only; exact Kd.own_blk (Kd.R_away HO_406001.out (fun _ hk => hk.2.2.2.1)))) _).trans (hHeld.2.2.2.2.2.2.2.2.2.2.2.2.2.2.1)))))))))), ((cell_far (p := ⟨gb427, _, none⟩) (by first | exact Kd.own_blk (Kd.R_away HO_406001.out (fun _ hk => hk.2.2.2.1)) | (rw [add_block]; exact Kd.own_blk (Kd.R_away HO_406001.out (fun _ hk => hk.2.2.2.1))) | (show (Addr.add _ _).block ≠ _; rw [add_block]; exact Kd.own_blk (Kd.R_away HO_406001.out (fun _ hk => hk.2.2.2.1))) | (dsimp only; exact Kd.own_blk (Kd.R_away HO_406001.out (fun _ hk => hk.2.2.2.1)))) _).trans (((cell_far (p := ⟨gb427, _, none⟩) (by first | exact Kd.own_blk (Kd.R_away HO_406001.out (fun _ hk => hk.2.2.2.1)) | (rw [add_block]; exact Kd.own_blk (Kd.R_away HO_406001.out (fun _ hk => hk.2.2.2.1))) | (show (Addr.add _ _).block ≠ _; rw [add_block]; exact Kd.own_blk (Kd.R_away HO_406001.out (fun _ hk => hk.2.2.2.1))) | (dsimp only; exact Kd.own_blk (Kd.R_away HO_406001.out (fun _ hk => hk.2.2.2.1)))) _).trans (((cell_far (p := ⟨gb427, _, none⟩) (by first | exact Kd.own_blk (Kd.R_away HO_406001.out (fun _ hk => hk.2.2.2.1)) | (rw [add_block]; exact Kd.own_blk (Kd.R_away HO_406001.out (fun _ hk => hk.2.2.2.1))) | (show (Addr.add _ _).block ≠ _; rw [add_block]; exact Kd.own_blk (Kd.R_away HO_406001.out (fun _ hk => hk.2.2.2.1))) | (dsimp only; exact Kd.own_blk (Kd.R_away HO_406001.out (fun _ hk => hk.2.2.2.1)))) _).trans (((cell_far (p := ⟨gb427, _, none⟩) (by first | exact Kd.own_blk (Kd.R_away HO_406001.out (fun _ hk => hk.2.2.2.1)) | (rw [add_block]; exact Kd.own_blk (Kd.R_away HO_406001.out (fun _ hk => hk.2.2.2.1))) | (show (Addr.add _ _).block ≠ _; rw [add_block]; exact Kd.own_blk (Kd.R_away HO_406001.out (fun _ hk => hk.2.2.2.1))) | (dsimp only; exact Kd.own_blk (Kd.R_away HO_406001.out (fun _ hk => hk.2.2.2.1)))) _).trans (((cell_far (p := ⟨gb427, _, none⟩) (by first | exact Kd.own_blk (Kd.R_away HO_406001.out (fun _ hk => hk.2.2.2.1)) | (rw [add_block]; exact Kd.own_blk (Kd.R_away HO_406001.out (fun _ hk => hk.2.2.2.1))) | (show (Addr.add _ _).block ≠ _; rw [add_block]; exact Kd.own_blk (Kd.R_away HO_406001.out (fun _ hk => hk.2.2.2.1))) | (dsimp only; exact Kd.own_blk (Kd.R_away HO_406001.out (fun _ hk => hk.2.2.2.1)))) _).trans (hHeld.2.2.2.2.2.2.2.2.2.2.2.2.2.2.2))))))))))⟩ (fun hHeld => ?_)
     clear hK K
     refine one_ (i := 13) (N := none) #[true, true, true, true, true, true, true, true, true, true, true, true, true, true] rfl rfl (one_of HT_.out (by kernel_rfl)) (by decide) (fun K hK => ?_)
     have hs66 : w60.cell? ⟨gb428, 0, none⟩ = some (.int .i64 0) := (blk_cell BK428.out 0).trans rfl
     have hfs66 := blk_frozen BK428.out 0
     have hns66_0 := NB396_428.out
     have hns66_1 := NB405_428.out
     have hns66_2 := NB414_428.out
     have hns66_3 := NB424_428.out
     have hns66_4 := NB427_428.out
     have hms66_0 := NB428_396.out
     have hms66_1 := NB428_405.out
     have hms66_2 := NB428_414.out
     have hms66_3 := NB428_424.out
     have hms66_4 := NB428_427.out
     have hs67 : w60.cell? ⟨gb428, 1, none⟩ = some (.int .i64 0) := (blk_cell BK428.out 1).trans rfl
     have hfs67 := blk_frozen BK428.out 1
     have hns67_0 := NB396_428.out
     have hns67_1 := NB405_428.out
     have hns67_2 := NB414_428.out
     have hns67_3 := NB424_428.out
     have hns67_4 := NB427_428.out
     have hms67_0 := NB428_396.out
     have hms67_1 := NB428_405.out
     have hms67_2 := NB428_414.out
     have hms67_3 := NB428_424.out
     have hms67_4 := NB428_427.out
     have hs68 : w60.cell? ⟨gb428, 2, none⟩ = some (.int .i64 0) := (blk_cell BK428.out 2).trans rfl
     have hfs68 := blk_frozen BK428.out 2
     have hns68_0 := NB396_428.out
     have hns68_1 := NB405_428.out
     have hns68_2 := NB414_428.out
     have hns68_3 := NB424_428.out
     have hns68_4 := NB427_428.out
     have hms68_0 := NB428_396.out
     have hms68_1 := NB428_405.out
     have hms68_2 := NB428_414.out
     have hms68_3 := NB428_424.out
     have hms68_4 := NB428_427.out
     have hs69 : w60.cell? ⟨gb428, 3, none⟩ = some (.int .i64 0) := (blk_cell BK428.out 3).trans rfl
     have hfs69 := blk_frozen BK428.out 3
     have hns69_0 := NB396_428.out
     have hns69_1 := NB405_428.out
     have hns69_2 := NB414_428.out
     have hns69_3 := NB424_428.out
     have hns69_4 := NB427_428.out
     have hms69_0 := NB428_396.out
     have hms69_1 := NB428_405.out
     have hms69_2 := NB428_414.out
     have hms69_3 := NB428_424.out
     have hms69_4 := NB428_427.out
     have hs70 : w60.cell? ⟨gb428, 4, none⟩ = some (.int .i64 0) := (blk_cell BK428.out 4).trans rfl
     have hfs70 := blk_frozen BK428.out 4
     have hns70_0 := NB396_428.out
     have hns70_1 := NB405_428.out
     have hns70_2 := NB414_428.out
     have hns70_3 := NB424_428.out
     have hns70_4 := NB427_428.out
     have hms70_0 := NB428_396.out
     have hms70_1 := NB428_405.out
     have hms70_2 := NB428_414.out
     have hms70_3 := NB428_424.out
     have hms70_4 := NB428_427.out
     refine skip_ (w1 := ?_) (by rfl) rfl ?_ ?_
     rotate_left
     ·go_simp
      rfl
     refine hK.out _ _ ⟨((cell_far (p := ⟨gb428, _, none⟩) NB396_428.out _).trans (((cell_far (p := ⟨gb428, _, none⟩) NB396_428.out _).trans (((cell_far (p := ⟨gb428, _, none⟩) NB396_428.out _).trans (((cell_far (p := ⟨gb428, _, none⟩) NB396_428.out _).trans (((cell_far (p := ⟨gb428, _, none⟩) NB396_428.out _).trans (hHeld.1)))))))))), ((cell_far (p := ⟨gb428, _, none⟩) NB396_428.out _).trans (((cell_far (p := ⟨gb428, _, none⟩) NB396_428.out _).trans (((cell_far (p := ⟨gb428, _, none⟩) NB396_428.out _).trans (((cell_far (p := ⟨gb428, _, none⟩) NB396_428.out _).trans (((cell_far (p := ⟨gb428, _, none⟩) NB396_428.out _).trans (hHeld.2.1)))))))))), ((cell_far (p := ⟨gb428, _, none⟩) NB396_428.out _).trans (((cell_far (p := ⟨gb428, _, none⟩) NB396_428.out _).trans (((cell_far (p := ⟨gb428, _, none⟩) NB396_428.out _).trans (((cell_far (p := ⟨gb428, _, none⟩) NB396_428.out _).trans (((cell_far (p := ⟨gb428, _, none⟩) NB396_428.out _).trans (hHeld.2.2.1)))))))))), ((cell_far (p := ⟨gb428, _, none⟩) NB405_428.out _).trans (((cell_far (p := ⟨gb428, _, none⟩) NB405_428.out _).trans (((cell_far (p := ⟨gb428, _, none⟩) NB405_428.out _).trans (((cell_far (p := ⟨gb428, _, none⟩) NB405_428.out _).trans (((cell_far (p := ⟨gb428, _, none⟩) NB405_428.out _).trans (hHeld.2.2.2.1)))))))))), ((cell_far (p := ⟨gb428, _, none⟩) NB405_428.out _).trans (((cell_far (p := ⟨gb428, _, none⟩) NB405_428.out _).trans (((cell_far (p := ⟨gb428, _, none⟩) NB405_428.out _).trans (((cell_far (p := ⟨gb428, _, none⟩) NB405_428.out _).trans (((cell_far (p := ⟨gb428, _, none⟩) NB405_428.out _).trans (hHeld.2.2.2.2.1)))))))))), ((cell_far (p := ⟨gb428, _, none⟩) NB405_428.out _).trans (((cell_far (p := ⟨gb428, _, none⟩) NB405_428.out _).trans (((cell_far (p := ⟨gb428, _, none⟩) NB405_428.out _).trans (((cell_far (p := ⟨gb428, _, none⟩) NB405_428.out _).trans (((cell_far (p := ⟨gb428, _, none⟩) NB405_428.out _).trans (hHeld.2.2.2.2.2.1)))))))))), ((cell_far (p := ⟨gb428, _, none⟩) (by first | exact Kd.own_blk (Kd.R_away HO_397001.out (fun _ hk => hk.2.2.2.2)) | (rw [add_block]; exact Kd.own_blk (Kd.R_away HO_397001.out (fun _ hk => hk.2.2.2.2))) | (show (Addr.add _ _).block ≠ _; rw [add_block]; exact Kd.own_blk (Kd.R_away HO_397001.out (fun _ hk => hk.2.2.2.2))) | (dsimp only; exact Kd.own_blk (Kd.R_away HO_397001.out (fun _ hk => hk.2.2.2.2)))) _).trans (((cell_far (p := ⟨gb428, _, none⟩) (by first | exact Kd.own_blk (Kd.R_away HO_397001.out (fun _ hk => hk.2.2.2.2)) | (rw [add_block]; exact Kd.own_blk (Kd.R_away HO_397001.out (fun _ hk => hk.2.2.2.2))) | (show (Addr.add _ _).block ≠ _; rw [add_block]; exact Kd.own_blk (Kd.R_away HO_397001.out (fun _ hk => hk.2.2.2.2))) | (dsimp only; exact Kd.own_blk (Kd.R_away HO_397001.out (fun _ hk => hk.2.2.2.2)))) _).trans (((cell_far (p := ⟨gb428, _, none⟩) (by first | exact Kd.own_blk (Kd.R_away HO_397001.out (fun _ hk => hk.2.2.2.2)) | (rw [add_block]; exact Kd.own_blk (Kd.R_away HO_397001.out (fun _ hk => hk.2.2.2.2))) | (show (Addr.add _ _).block ≠ _; rw [add_block]; exact Kd.own_blk (Kd.R_away HO_397001.out (fun _ hk => hk.2.2.2.2))) | (dsimp only; exact Kd.own_blk (Kd.R_away HO_397001.out (fun _ hk => hk.2.2.2.2)))) _).trans (((cell_far (p := ⟨gb428, _, none⟩) (by first | exact Kd.own_blk (Kd.R_away HO_397001.out (fun _ hk => hk.2.2.2.2)) | (rw [add_block]; exact Kd.own_blk (Kd.R_away HO_397001.out (fun _ hk => hk.2.2.2.2))) | (show (Addr.add _ _).block ≠ _; rw [add_block]; exact Kd.own_blk (Kd.R_away HO_397001.out (fun _ hk => hk.2.2.2.2))) | (dsimp only; exact Kd.own_blk (Kd.R_away HO_397001.out (fun _ hk => hk.2.2.2.2)))) _).trans (((cell_far (p := ⟨gb428, _, none⟩) (by first | exact Kd.own_blk (Kd.R_away HO_397001.out (fun _ hk => hk.2.2.2.2)) | (rw [add_block]; exact Kd.own_blk (Kd.R_away HO_397001.out (fun _ hk => hk.2.2.2.2))) | (show (Addr.add _ _).block ≠ _; rw [add_block]; exact Kd.own_blk (Kd.R_away HO_397001.out (fun _ hk => hk.2.2.2.2))) | (dsimp only; exact Kd.own_blk (Kd.R_away HO_397001.out (fun _ hk => hk.2.2.2.2)))) _).trans (hHeld.2.2.2.2.2.2.1)))))))))), ((cell_far (p := ⟨gb428, _, none⟩) (by first | exact Kd.own_blk (Kd.R_away HO_397001.out (fun _ hk => hk.2.2.2.2)) | (rw [add_block]; exact Kd.own_blk (Kd.R_away HO_397001.out (fun _ hk => hk.2.2.2.2))) | (show (Addr.add _ _).block ≠ _; rw [add_block]; exact Kd.own_blk (Kd.R_away HO_397001.out (fun _ hk => hk.2.2.2.2))) | (dsimp only; exact Kd.own_blk (Kd.R_away HO_397001.out (fun _ hk => hk.2.2.2.2)))) _).trans (((cell_far (p := ⟨gb428, _, none⟩) (by first | exact Kd.own_blk (Kd.R_away HO_397001.out (fun _ hk => hk.2.2.2.2)) | (rw [add_block]; exact Kd.own_blk (Kd.R_away HO_397001.out (fun _ hk => hk.2.2.2.2))) | (show (Addr.add _ _).block ≠ _; rw [add_block]; exact Kd.own_blk (Kd.R_away HO_397001.out (fun _ hk => hk.2.2.2.2))) | (dsimp only; exact Kd.own_blk (Kd.R_away HO_397001.out (fun _ hk => hk.2.2.2.2)))) _).trans (((cell_far (p := ⟨gb428, _, none⟩) (by first | exact Kd.own_blk (Kd.R_away HO_397001.out (fun _ hk => hk.2.2.2.2)) | (rw [add_block]; exact Kd.own_blk (Kd.R_away HO_397001.out (fun _ hk => hk.2.2.2.2))) | (show (Addr.add _ _).block ≠ _; rw [add_block]; exact Kd.own_blk (Kd.R_away HO_397001.out (fun _ hk => hk.2.2.2.2))) | (dsimp only; exact Kd.own_blk (Kd.R_away HO_397001.out (fun _ hk => hk.2.2.2.2)))) _).trans (((cell_far (p := ⟨gb428, _, none⟩) (by first | exact Kd.own_blk (Kd.R_away HO_397001.out (fun _ hk => hk.2.2.2.2)) | (rw [add_block]; exact Kd.own_blk (Kd.R_away HO_397001.out (fun _ hk => hk.2.2.2.2))) | (show (Addr.add _ _).block ≠ _; rw [add_block]; exact Kd.own_blk (Kd.R_away HO_397001.out (fun _ hk => hk.2.2.2.2))) | (dsimp only; exact Kd.own_blk (Kd.R_away HO_397001.out (fun _ hk => hk.2.2.2.2)))) _).trans (((cell_far (p := ⟨gb428, _, none⟩) (by first | exact Kd.own_blk (Kd.R_away HO_397001.out (fun _ hk => hk.2.2.2.2)) | (rw [add_block]; exact Kd.own_blk (Kd.R_away HO_397001.out (fun _ hk => hk.2.2.2.2))) | (show (Addr.add _ _).block ≠ _; rw [add_block]; exact Kd.own_blk (Kd.R_away HO_397001.out (fun _ hk => hk.2.2.2.2))) | (dsimp only; exact Kd.own_blk (Kd.R_away HO_397001.out (fun _ hk => hk.2.2.2.2)))) _).trans (hHeld.2.2.2.2.2.2.2.1)))))))))), ((cell_far (p := ⟨gb428, _, none⟩) (by first | exact Kd.own_blk (Kd.R_away HO_397001.out (fun _ hk => hk.2.2.2.2)) | (rw [add_block]; exact Kd.own_blk (Kd.R_away HO_397001.out (fun _ hk => hk.2.2.2.2))) | (show (Addr.add _ _).block ≠ _; rw [add_block]; exact Kd.own_blk (Kd.R_away HO_397001.out (fun _ hk => hk.2.2.2.2))) | (dsimp only; exact Kd.own_blk (Kd.R_away HO_397001.out (fun _ hk => hk.2.2.2.2)))) _).trans (((cell_far (p := ⟨gb428, _, none⟩) (by first | exact Kd.own_blk (Kd.R_away HO_397001.out (fun _ hk => hk.2.2.2.2)) | (rw [add_block]; exact Kd.own_blk (Kd.R_away HO_397001.out (fun _ hk => hk.2.2.2.2))) | (show (Addr.add _ _).block ≠ _; rw [add_block]; exact Kd.own_blk (Kd.R_away HO_397001.out (fun _ hk => hk.2.2.2.2))) | (dsimp only; exact Kd.own_blk (Kd.R_away HO_397001.out (fun _ hk => hk.2.2.2.2)))) _).trans (((cell_far (p := ⟨gb428, _, none⟩) (by first | exact Kd.own_blk (Kd.R_away HO_397001.out (fun _ hk => hk.2.2.2.2)) | (rw [add_block]; exact Kd.own_blk (Kd.R_away HO_397001.out (fun _ hk => hk.2.2.2.2))) | (show (Addr.add _ _).block ≠ _; rw [add_block]; exact Kd.own_blk (Kd.R_away HO_397001.out (fun _ hk => hk.2.2.2.2))) | (dsimp only; exact Kd.own_blk (Kd.R_away HO_397001.out (fun _ hk => hk.2.2.2.2)))) _).trans (((cell_far (p := ⟨gb428, _, none⟩) (by first | exact Kd.own_blk (Kd.R_away HO_397001.out (fun _ hk => hk.2.2.2.2)) | (rw [add_block]; exact Kd.own_blk (Kd.R_away HO_397001.out (fun _ hk => hk.2.2.2.2))) | (show (Addr.add _ _).block ≠ _; rw [add_block]; exact Kd.own_blk (Kd.R_away HO_397001.out (fun _ hk => hk.2.2.2.2))) | (dsimp only; exact Kd.own_blk (Kd.R_away HO_397001.out (fun _ hk => hk.2.2.2.2)))) _).trans (((cell_far (p := ⟨gb428, _, none⟩) (by first | exact Kd.own_blk (Kd.R_away HO_397001.out (fun _ hk => hk.2.2.2.2)) | (rw [add_block]; exact Kd.own_blk (Kd.R_away HO_397001.out (fun _ hk => hk.2.2.2.2))) | (show (Addr.add _ _).block ≠ _; rw [add_block]; exact Kd.own_blk (Kd.R_away HO_397001.out (fun _ hk => hk.2.2.2.2))) | (dsimp only; exact Kd.own_blk (Kd.R_away HO_397001.out (fun _ hk => hk.2.2.2.2)))) _).trans (hHeld.2.2.2.2.2.2.2.2.1)))))))))), ((cell_far (p := ⟨gb428, _, none⟩) (by first | exact Kd.own_blk (Kd.R_away HO_397001.out (fun _ hk => hk.2.2.2.2)) | (rw [add_block]; exact Kd.own_blk (Kd.R_away HO_397001.out (fun _ hk => hk.2.2.2.2))) | (show (Addr.add _ _).block ≠ _; rw [add_block]; exact Kd.own_blk (Kd.R_away HO_397001.out (fun _ hk => hk.2.2.2.2))) | (dsimp only; exact Kd.own_blk (Kd.R_away HO_397001.out (fun _ hk => hk.2.2.2.2)))) _).trans (((cell_far (p := ⟨gb428, _, none⟩) (by first | exact Kd.own_blk (Kd.R_away HO_397001.out (fun _ hk => hk.2.2.2.2)) | (rw [add_block]; exact Kd.own_blk (Kd.R_away HO_397001.out (fun _ hk => hk.2.2.2.2))) | (show (Addr.add _ _).block ≠ _; rw [add_block]; exact Kd.own_blk (Kd.R_away HO_397001.out (fun _ hk => hk.2.2.2.2))) | (dsimp only; exact Kd.own_blk (Kd.R_away HO_397001.out (fun _ hk => hk.2.2.2.2)))) _).trans (((cell_far (p := ⟨gb428, _, none⟩) (by first | exact Kd.own_blk (Kd.R_away HO_397001.out (fun _ hk => hk.2.2.2.2)) | (rw [add_block]; exact Kd.own_blk (Kd.R_away HO_397001.out (fun _ hk => hk.2.2.2.2))) | (show (Addr.add _ _).block ≠ _; rw [add_block]; exact Kd.own_blk (Kd.R_away HO_397001.out (fun _ hk => hk.2.2.2.2))) | (dsimp only; exact Kd.own_blk (Kd.R_away HO_397001.out (fun _ hk => hk.2.2.2.2)))) _).trans (((cell_far (p := ⟨gb428, _, none⟩) (by first | exact Kd.own_blk (Kd.R_away HO_397001.out (fun _ hk => hk.2.2.2.2)) | (rw [add_block]; exact Kd.own_blk (Kd.R_away HO_397001.out (fun _ hk => hk.2.2.2.2))) | (show (Addr.add _ _).block ≠ _; rw [add_block]; exact Kd.own_blk (Kd.R_away HO_397001.out (fun _ hk => hk.2.2.2.2))) | (dsimp only; exact Kd.own_blk (Kd.R_away HO_397001.out (fun _ hk => hk.2.2.2.2)))) _).trans (((cell_far (p := ⟨gb428, _, none⟩) (by first | exact Kd.own_blk (Kd.R_away HO_397001.out (fun _ hk => hk.2.2.2.2)) | (rw [add_block]; exact Kd.own_blk (Kd.R_away HO_397001.out (fun _ hk => hk.2.2.2.2))) | (show (Addr.add _ _).block ≠ _; rw [add_block]; exact Kd.own_blk (Kd.R_away HO_397001.out (fun _ hk => hk.2.2.2.2))) | (dsimp only; exact Kd.own_blk (Kd.R_away HO_397001.out (fun _ hk => hk.2.2.2.2)))) _).trans (hHeld.2.2.2.2.2.2.2.2.2.1)))))))))), ((cell_far (p := ⟨gb428, _, none⟩) (by first | exact Kd.own_blk (Kd.R_away HO_397001.out (fun _ hk => hk.2.2.2.2)) | (rw [add_block]; exact Kd.own_blk (Kd.R_away HO_397001.out (fun _ hk => hk.2.2.2.2))) | (show (Addr.add _ _).block ≠ _; rw [add_block]; exact Kd.own_blk (Kd.R_away HO_397001.out (fun _ hk => hk.2.2.2.2))) | (dsimp only; exact Kd.own_blk (Kd.R_away HO_397001.out (fun _ hk => hk.2.2.2.2)))) _).trans (((cell_far (p := ⟨gb428, _, none⟩) (by first | exact Kd.own_blk (Kd.R_away HO_397001.out (fun _ hk => hk.2.2.2.2)) | (rw [add_block]; exact Kd.own_blk (Kd.R_away HO_397001.out (fun _ hk => hk.2.2.2.2))) | (show (Addr.add _ _).block ≠ _; rw [add_block]; exact Kd.own_blk (Kd.R_away HO_397001.out (fun _ hk => hk.2.2.2.2))) | (dsimp only; exact Kd.own_blk (Kd.R_away HO_397001.out (fun _ hk => hk.2.2.2.2)))) _).trans (((cell_far (p := ⟨gb428, _, none⟩) (by first | exact Kd.own_blk (Kd.R_away HO_397001.out (fun _ hk => hk.2.2.2.2)) | (rw [add_block]; exact Kd.own_blk (Kd.R_away HO_397001.out (fun _ hk => hk.2.2.2.2))) | (show (Addr.add _ _).block ≠ _; rw [add_block]; exact Kd.own_blk (Kd.R_away HO_397001.out (fun _ hk => hk.2.2.2.2))) | (dsimp only; exact Kd.own_blk (Kd.R_away HO_397001.out (fun _ hk => hk.2.2.2.2)))) _).trans (((cell_far (p := ⟨gb428, _, none⟩) (by first | exact Kd.own_blk (Kd.R_away HO_397001.out (fun _ hk => hk.2.2.2.2)) | (rw [add_block]; exact Kd.own_blk (Kd.R_away HO_397001.out (fun _ hk => hk.2.2.2.2))) | (show (Addr.add _ _).block ≠ _; rw [add_block]; exact Kd.own_blk (Kd.R_away HO_397001.out (fun _ hk => hk.2.2.2.2))) | (dsimp only; exact Kd.own_blk (Kd.R_away HO_397001.out (fun _ hk => hk.2.2.2.2)))) _).trans (((cell_far (p := ⟨gb428, _, none⟩) (by first | exact Kd.own_blk (Kd.R_away HO_397001.out (fun _ hk => hk.2.2.2.2)) | (rw [add_block]; exact Kd.own_blk (Kd.R_away HO_397001.out (fun _ hk => hk.2.2.2.2))) | (show (Addr.add _ _).block ≠ _; rw [add_block]; exact Kd.own_blk (Kd.R_away HO_397001.out (fun _ hk => hk.2.2.2.2))) | (dsimp only; exact Kd.own_blk (Kd.R_away HO_397001.out (fun _ hk => hk.2.2.2.2)))) _).trans (hHeld.2.2.2.2.2.2.2.2.2.2.1)))))))))), ((cell_far (p := ⟨gb428, _, none⟩) (by first | exact Kd.own_blk (Kd.R_away HO_406001.out (fun _ hk => hk.2.2.2.2)) | (rw [add_block]; exact Kd.own_blk (Kd.R_away HO_406001.out (fun _ hk => hk.2.2.2.2))) | (show (Addr.add _ _).block ≠ _; rw [add_block]; exact Kd.own_blk (Kd.R_away HO_406001.out (fun _ hk => hk.2.2.2.2))) | (dsimp only; exact Kd.own_blk (Kd.R_away HO_406001.out (fun _ hk => hk.2.2.2.2)))) _).trans (((cell_far (p := ⟨gb428, _, none⟩) (by first | exact Kd.own_blk (Kd.R_away HO_406001.out (fun _ hk => hk.2.2.2.2)) | (rw [add_block]; exact Kd.own_blk (Kd.R_away HO_406001.out (fun _ hk => hk.2.2.2.2))) | (show (Addr.add _ _).block ≠ _; rw [add_block]; exact Kd.own_blk (Kd.R_away HO_406001.out (fun _ hk => hk.2.2.2.2))) | (dsimp only; exact Kd.own_blk (Kd.R_away HO_406001.out (fun _ hk => hk.2.2.2.2)))) _).trans (((cell_far (p := ⟨gb428, _, none⟩) (by first | exact Kd.own_blk (Kd.R_away HO_406001.out (fun _ hk => hk.2.2.2.2)) | (rw [add_block]; exact Kd.own_blk (Kd.R_away HO_406001.out (fun _ hk => hk.2.2.2.2))) | (show (Addr.add _ _).block ≠ _; rw [add_block]; exact Kd.own_blk (Kd.R_away HO_406001.out (fun _ hk => hk.2.2.2.2))) | (dsimp only; exact Kd.own_blk (Kd.R_away HO_406001.out (fun _ hk => hk.2.2.2.2)))) _).trans (((cell_far (p := ⟨gb428, _, none⟩) (by first | exact Kd.own_blk (Kd.R_away HO_406001.out (fun _ hk => hk.2.2.2.2)) | (rw [add_block]; exact Kd.own_blk (Kd.R_away HO_406001.out (fun _ hk => hk.2.2.2.2))) | (show (Addr.add _ _).block ≠ _; rw [add_block]; exact Kd.own_blk (Kd.R_away HO_406001.out (fun _ hk => hk.2.2.2.2))) | (dsimp only; exact Kd.own_blk (Kd.R_away HO_406001.out (fun _ hk => hk.2.2.2.2)))) _).trans (((cell_far (p := ⟨gb428, _, none⟩) (by first | exact Kd.own_blk (Kd.R_away HO_406001.out (fun _ hk => hk.2.2.2.2)) | (rw [add_block]; exact Kd.own_blk (Kd.R_away HO_406001.out (fun _ hk => hk.2.2.2.2))) | (show (Addr.add _ _).block ≠ _; rw [add_block]; exact Kd.own_blk (Kd.R_away HO_406001.out (fun _ hk => hk.2.2.2.2))) | (dsimp only; exact Kd.own_blk (Kd.R_away HO_406001.out (fun _ hk => hk.2.2.2.2)))) _).trans (hHeld.2.2.2.2.2.2.2.2.2.2.2.1)))))))))), ((cell_far (p := ⟨gb428, _, none⟩) (by first | exact Kd.own_blk (Kd.R_away HO_406001.out (fun _ hk => hk.2.2.2.2)) | (rw [add_block]; exact Kd.own_blk (Kd.R_away HO_406001.out (fun _ hk => hk.2.2.2.2))) | (show (Addr.add _ _).block ≠ _; rw [add_block]; exact Kd.own_blk (Kd.R_away HO_406001.out (fun _ hk => hk.2.2.2.2))) | (dsimp only; exact Kd.own_blk (Kd.R_away HO_406001.out (fun _ hk => hk.2.2.2.2)))) _).trans (((cell_far (p := ⟨gb428, _, none⟩) (by first | exact Kd.own_blk (Kd.R_away HO_406001.out (fun _ hk => hk.2.2.2.2)) | (rw [add_block]; exact Kd.own_blk (Kd.R_away HO_406001.out (fun _ hk => hk.2.2.2.2))) | (show (Addr.add _ _).block ≠ _; rw [add_block]; exact Kd.own_blk (Kd.R_away HO_406001.out (fun _ hk => hk.2.2.2.2))) | (dsimp only; exact Kd.own_blk (Kd.R_away HO_406001.out (fun _ hk => hk.2.2.2.2)))) _).trans (((cell_far (p := ⟨gb428, _, none⟩) (by first | exact Kd.own_blk (Kd.R_away HO_406001.out (fun _ hk => hk.2.2.2.2)) | (rw [add_block]; exact Kd.own_blk (Kd.R_away HO_406001.out (fun _ hk => hk.2.2.2.2))) | (show (Addr.add _ _).block ≠ _; rw [add_block]; exact Kd.own_blk (Kd.R_away HO_406001.out (fun _ hk => hk.2.2.2.2))) | (dsimp only; exact Kd.own_blk (Kd.R_away HO_406001.out (fun _ hk => hk.2.2.2.2)))) _).trans (((cell_far (p := ⟨gb428, _, none⟩) (by first | exact Kd.own_blk (Kd.R_away HO_406001.out (fun _ hk => hk.2.2.2.2)) | (rw [add_block]; exact Kd.own_blk (Kd.R_away HO_406001.out (fun _ hk => hk.2.2.2.2))) | (show (Addr.add _ _).block ≠ _; rw [add_block]; exact Kd.own_blk (Kd.R_away HO_406001.out (fun _ hk => hk.2.2.2.2))) | (dsimp only; exact Kd.own_blk (Kd.R_away HO_406001.out (fun _ hk => hk.2.2.2.2)))) _).trans (((cell_far (p := ⟨gb428, _, none⟩) (by first | exact Kd.own_blk (Kd.R_away HO_406001.out (fun _ hk => hk.2.2.2.2)) | (rw [add_block]; exact Kd.own_blk (Kd.R_away HO_406001.out (fun _ hk => hk.2.2.2.2))) | (show (Addr.add _ _).block ≠ _; rw [add_block]; exact Kd.own_blk (Kd.R_away HO_406001.out (fun _ hk => hk.2.2.2.2))) | (dsimp only; exact Kd.own_blk (Kd.R_away HO_406001.out (fun _ hk => hk.2.2.2.2)))) _).trans (hHeld.2.2.2.2.2.2.2.2.2.2.2.2.1)))))))))), ((cell_far (p := ⟨gb428, _, none⟩) (by first | exact Kd.own_blk (Kd.R_away HO_406001.out (fun _ hk => hk.2.2.2.2)) | (rw [add_block]; exact Kd.own_blk (Kd.R_away HO_406001.out (fun _ hk => hk.2.2.2.2))) | (show (Addr.add _ _).block ≠ _; rw [add_block]; exact Kd.own_blk (Kd.R_away HO_406001.out (fun _ hk => hk.2.2.2.2))) | (dsimp only; exact Kd.own_blk (Kd.R_away HO_406001.out (fun _ hk => hk.2.2.2.2)))) _).trans (((cell_far (p := ⟨gb428, _, none⟩) (by first | exact Kd.own_blk (Kd.R_away HO_406001.out (fun _ hk => hk.2.2.2.2)) | (rw [add_block]; exact Kd.own_blk (Kd.R_away HO_406001.out (fun _ hk => hk.2.2.2.2))) | (show (Addr.add _ _).block ≠ _; rw [add_block]; exact Kd.own_blk (Kd.R_away HO_406001.out (fun _ hk => hk.2.2.2.2))) | (dsimp only; exact Kd.own_blk (Kd.R_away HO_406001.out (fun _ hk => hk.2.2.2.2)))) _).trans (((cell_far (p := ⟨gb428, _, none⟩) (by first | exact Kd.own_blk (Kd.R_away HO_406001.out (fun _ hk => hk.2.2.2.2)) | (rw [add_block]; exact Kd.own_blk (Kd.R_away HO_406001.out (fun _ hk => hk.2.2.2.2))) | (show (Addr.add _ _).block ≠ _; rw [add_block]; exact Kd.own_blk (Kd.R_away HO_406001.out (fun _ hk => hk.2.2.2.2))) | (dsimp only; exact Kd.own_blk (Kd.R_away HO_406001.out (fun _ hk => hk.2.2.2.2)))) _).trans (((cell_far (p := ⟨gb428, _, none⟩) (by first | exact Kd.own_blk (Kd.R_away HO_406001.out (fun _ hk => hk.2.2.2.2)) | (rw [add_block]; exact Kd.own_blk (Kd.R_away HO_406001.out (fun _ hk => hk.2.2.2.2))) | (show (Addr.add _ _).block ≠ _; rw [add_block]; exact Kd.own_blk (Kd.R_away HO_406001.out (fun _ hk => hk.2.2.2.2))) | (dsimp only; exact Kd.own_blk (Kd.R_away HO_406001.out (fun _ hk => hk.2.2.2.2)))) _).trans (((cell_far (p := ⟨gb428, _, none⟩) (by first | exact Kd.own_blk (Kd.R_away HO_406001.out (fun _ hk => hk.2.2.2.2)) | (rw [add_block]; exact Kd.own_blk (Kd.R_away HO_406001.out (fun _ hk => hk.2.2.2.2))) | (show (Addr.add _ _).block ≠ _; rw [add_block]; exact Kd.own_blk (Kd.R_away HO_406001.out (fun _ hk => hk.2.2.2.2))) | (dsimp only; exact Kd.own_blk (Kd.R_away HO_406001.out (fun _ hk => hk.2.2.2.2)))) _).trans (hHeld.2.2.2.2.2.2.2.2.2.2.2.2.2.1)))))))))), ((cell_far (p := ⟨gb428, _, none⟩) (by first | exact Kd.own_blk (Kd.R_away HO_406001.out (fun _ hk => hk.2.2.2.2)) | (rw [add_block]; exact Kd.own_blk (Kd.R_away HO_406001.out (fun _ hk => hk.2.2.2.2))) | (show (Addr.add _ _).block ≠ _; rw [add_block]; exact Kd.own_blk (Kd.R_away HO_406001.out (fun _ hk => hk.2.2.2.2))) | (dsimp only; exact Kd.own_blk (Kd.R_away HO_406001.out (fun _ hk => hk.2.2.2.2)))) _).trans (((cell_far (p := ⟨gb428, _, none⟩) (by first | exact Kd.own_blk (Kd.R_away HO_406001.out (fun _ hk => hk.2.2.2.2)) | (rw [add_block]; exact Kd.own_blk (Kd.R_away HO_406001.out (fun _ hk => hk.2.2.2.2))) | (show (Addr.add _ _).block ≠ _; rw [add_block]; exact Kd.own_blk (Kd.R_away HO_406001.out (fun _ hk => hk.2.2.2.2))) | (dsimp only; exact Kd.own_blk (Kd.R_away HO_406001.out (fun _ hk => hk.2.2.2.2)))) _).trans (((cell_far (p := ⟨gb428, _, none⟩) (by first | exact Kd.own_blk (Kd.R_away HO_406001.out (fun _ hk => hk.2.2.2.2)) | (rw [add_block]; exact Kd.own_blk (Kd.R_away HO_406001.out (fun _ hk => hk.2.2.2.2))) | (show (Addr.add _ _).block ≠ _; rw [add_block]; exact Kd.own_blk (Kd.R_away HO_406001.out (fun _ hk => hk.2.2.2.2))) | (dsimp only; exact Kd.own_blk (Kd.R_away HO_406001.out (fun _ hk => hk.2.2.2.2)))) _).trans (((cell_far (p := ⟨gb428, _, none⟩) (by first | exact Kd.own_blk (Kd.R_away HO_406001.out (fun _ hk => hk.2.2.2.2)) | (rw [add_block]; exact Kd.own_blk (Kd.R_away HO_406001.out (fun _ hk => hk.2.2.2.2))) | (show (Addr.add _ _).block ≠ _; rw [add_block]; exact Kd.own_blk (Kd.R_away HO_406001.out (fun _ hk => hk.2.2.2.2))) | (dsimp only; exact Kd.own_blk (Kd.R_away HO_406001.out (fun _ hk => hk.2.2.2.2)))) _).trans (((cell_far (p := ⟨gb428, _, none⟩) (by first | exact Kd.own_blk (Kd.R_away HO_406001.out (fun _ hk => hk.2.2.2.2)) | (rw [add_block]; exact Kd.own_blk (Kd.R_away HO_406001.out (fun _ hk => hk.2.2.2.2))) | (show (Addr.add _ _).block ≠ _; rw [add_block]; exact Kd.own_blk (Kd.R_away HO_406001.out (fun _ hk => hk.2.2.2.2))) | (dsimp only; exact Kd.own_blk (Kd.R_away HO_406001.out (fun _ hk => hk.2.2.2.2)))) _).trans (hHeld.2.2.2.2.2.2.2.2.2.2.2.2.2.2.1)))))))))), ((cell_far (p := ⟨gb428, _, none⟩) (by first | exact Kd.own_blk (Kd.R_away HO_406001.out (fun _ hk => hk.2.2.2.2)) | (rw [add_block]; exact Kd.own_blk (Kd.R_away HO_406001.out (fun _ hk => hk.2.2.2.2))) | (show (Addr.add _ _).block ≠ _; rw [add_block]; exact Kd.own_blk (Kd.R_away HO_406001.out (fun _ hk => hk.2.2.2.2))) | (dsimp only; exact Kd.own_blk (Kd.R_away HO_406001.out (fun _ hk => hk.2.2.2.2)))) _).trans (((cell_far (p := ⟨gb428, _, none⟩) (by first | exact Kd.own_blk (Kd.R_away HO_406001.out (fun _ hk => hk.2.2.2.2)) | (rw [add_block]; exact Kd.own_blk (Kd.R_away HO_406001.out (fun _ hk => hk.2.2.2.2))) | (show (Addr.add _ _).block ≠ _; rw [add_block]; exact Kd.own_blk (Kd.R_away HO_406001.out (fun _ hk => hk.2.2.2.2))) | (dsimp only; exact Kd.own_blk (Kd.R_away HO_406001.out (fun _ hk => hk.2.2.2.2)))) _).trans (((cell_far (p := ⟨gb428, _, none⟩) (by first | exact Kd.own_blk (Kd.R_away HO_406001.out (fun _ hk => hk.2.2.2.2)) | (rw [add_block]; exact Kd.own_blk (Kd.R_away HO_406001.out (fun _ hk => hk.2.2.2.2))) | (show (Addr.add _ _).block ≠ _; rw [add_block]; exact Kd.own_blk (Kd.R_away HO_406001.out (fun _ hk => hk.2.2.2.2))) | (dsimp only; exact Kd.own_blk (Kd.R_away HO_406001.out (fun _ hk => hk.2.2.2.2)))) _).trans (((cell_far (p := ⟨gb428, _, none⟩) (by first | exact Kd.own_blk (Kd.R_away HO_406001.out (fun _ hk => hk.2.2.2.2)) | (rw [add_block]; exact Kd.own_blk (Kd.R_away HO_406001.out (fun _ hk => hk.2.2.2.2))) | (show (Addr.add _ _).block ≠ _; rw [add_block]; exact Kd.own_blk (Kd.R_away HO_406001.out (fun _ hk => hk.2.2.2.2))) | (dsimp only; exact Kd.own_blk (Kd.R_away HO_406001.out (fun _ hk => hk.2.2.2.2)))) _).trans (((cell_far (p := ⟨gb428, _, none⟩) (by first | exact Kd.own_blk (Kd.R_away HO_406001.out (fun _ hk => hk.2.2.2.2)) | (rw [add_block]; exact Kd.own_blk (Kd.R_away HO_406001.out (fun _ hk => hk.2.2.2.2))) | (show (Addr.add _ _).block ≠ _; rw [add_block]; exact Kd.own_blk (Kd.R_away HO_406001.out (fun _ hk => hk.2.2.2.2))) | (dsimp only; exact Kd.own_blk (Kd.R_away HO_406001.out (fun _ hk => hk.2.2.2.2)))) _).trans (hHeld.2.2.2.2.2.2.2.2.2.2.2.2.2.2.2))))))))))⟩ (fun hHeld => ?_)
     clear hK K
     refine done_ (done_of HT_.out (by kernel_rfl)) ?_
     go_upto_region 15 with (fail)
     go_cut [83] (fun v83 wc => ∃ (kq : Nat) (x83_51 : Bool), v83 = .bool x83_51 ∧ Aside0 (laws_FnMoved.j2 kq t423 x11_2 x83_51 t388 t389 t392 t397 t398 t401 t416 t417 t420 = some r) ∧ Aside0 (kq ≤ k2) ∧ Aside0 (Kd.R k52 52 wc w.heap.size (fun k_ => some k_ ≠ ((.slice (some ad426) t398.length co17) : Value).ownBlock ∧ some k_ ≠ ((.slice Ao25 t407.length co25) : Value).ownBlock ∧ some k_ ≠ ((.slice Ao47 t417.length co47) : Value).ownBlock ∧ k_ ≠ gb427 ∧ k_ ≠ gb428) (.slice (some ad425) t389.length co11) t389) ∧ Aside0 (Kd.R k56 56 wc w.heap.size (fun k_ => some k_ ≠ ((.slice Ao18 t401.length co18) : Value).ownBlock ∧ some k_ ≠ ((.slice Ao26 t410.length co26) : Value).ownBlock ∧ some k_ ≠ ((.slice Ao48 t420.length co48) : Value).ownBlock) (.slice Ao12 t392.length co12) t392) ∧ Aside0 (Kd.R k52 52 wc w.heap.size (fun k_ => some k_ ≠ ((.slice (some ad425) t389.length co11) : Value).ownBlock ∧ some k_ ≠ ((.slice Ao25 t407.length co25) : Value).ownBlock ∧ some k_ ≠ ((.slice Ao47 t417.length co47) : Value).ownBlock ∧ k_ ≠ gb427 ∧ k_ ≠ gb428) (.slice (some ad426) t398.length co17) t398) ∧ Aside0 (Kd.R k56 56 wc w.heap.size (fun k_ => some k_ ≠ ((.slice Ao12 t392.length co12) : Value).ownBlock ∧ some k_ ≠ ((.slice Ao26 t410.length co26) : Value).ownBlock ∧ some k_ ≠ ((.slice Ao48 t420.length co48) : Value).ownBlock) (.slice Ao18 t401.length co18) t401) ∧ Aside0 (Kd.R k52 52 wc w.heap.size (fun k_ => some k_ ≠ ((.slice (some ad425) t389.length co11) : Value).ownBlock ∧ some k_ ≠ ((.slice (some ad426) t398.length co17) : Value).ownBlock ∧ some k_ ≠ ((.slice Ao47 t417.length co47) : Value).ownBlock ∧ k_ ≠ gb427 ∧ k_ ≠ gb428) (.slice Ao25 t407.length co25) t407) ∧ Aside0 (Kd.R k56 56 wc w.heap.size (fun k_ => some k_ ≠ ((.slice Ao12 t392.length co12) : Value).ownBlock ∧ some k_ ≠ ((.slice Ao18 t401.length co18) : Value).ownBlock ∧ some k_ ≠ ((.slice Ao48 t420.length co48) : Value).ownBlock) (.slice Ao26 t410.length co26) t410) ∧ Aside0 (Kd.R k52 52 wc w.heap.size (fun k_ => some k_ ≠ ((.slice (some ad425) t389.length co11) : Value).ownBlock ∧ some k_ ≠ ((.slice (some ad426) t398.length co17) : Value).ownBlock ∧ some k_ ≠ ((.slice Ao25 t407.length co25) : Value).ownBlock ∧ k_ ≠ gb427 ∧ k_ ≠ gb428) (.slice Ao47 t417.length co47) t417) ∧ Aside0 (Kd.R k56 56 wc w.heap.size (fun k_ => some k_ ≠ ((.slice Ao12 t392.length co12) : Value).ownBlock ∧ some k_ ≠ ((.slice Ao18 t401.length co18) : Value).ownBlock ∧ some k_ ≠ ((.slice Ao26 t410.length co26) : Value).ownBlock) (.slice Ao48 t420.length co48) t420) ∧ Aside0 (wc.heap[gb396]? = some (.cells #[.string t388, (.slice (some ad425) t389.length co11), (.slice Ao12 t392.length co12)] 45 (0, 0))) ∧ Aside0 (wc.heap[gb405]? = some (.cells #[.string t397, (.slice (some ad426) t398.length co17), (.slice Ao18 t401.length co18)] 45 (0, 0))) ∧ Aside0 (wc.heap[gb414]? = some (.cells #[.string t406, (.slice Ao25 t407.length co25), (.slice Ao26 t410.length co26)] 45 (0, 0))) ∧ Aside0 (wc.heap[gb424]? = some (.cells #[.string t416, (.slice Ao47 t417.length co47), (.slice Ao48 t420.length co48)] 45 (0, 0))) ∧ Aside0 (wc.heap[gb427]? = some (.cells #[.int .i64 ((rd_T52 t389 x11_2).f0), .int .i64 ((rd_T52 t389 x11_2).f1), .int .i64 ((rd_T52 t389 x11_2).f2), .int .i64 ((rd_T52 t389 x11_2).f3), .int .i64 ((rd_T52 t389 x11_2).f4)] 52 (0, 0))) ∧ Aside0 (wc.heap[gb428]? = some (.cells #[.int .i64 ((rd_T52 t398 x11_2).f0), .int .i64 ((rd_T52 t398 x11_2).f1), .int .i64 ((rd_T52 t398 x11_2).f2), .int .i64 ((rd_T52 t398 x11_2).f3), .int .i64 ((rd_T52 t398 x11_2).f4)] 52 (0, 0))) ∧ Aside0 (Below w.heap.size w wc))
     case first =>
      have H := HC52.out
      clear HC52
      by_cases c71 : ((rd_T52 t389 x11_2).f0) = 8
      ·rw [if_pos c71] at H
       have c71b0 : (((rd_T52 t389 x11_2).f0) == 8) = true := beq_iff_eq.mpr c71
       have c71b1 : (((rd_T52 t389 x11_2).f0) != 8) = false := bne_eq_false_iff_eq.mpr c71
       clear c71
       (first | rw [c71b0] | (simp only [i64_w, i32_w]; rw [c71b0]) | skip)
       have H' := Aside0.mk H
       clear H
       have hnb72 := NB427_396.out
       have hnc72 := NB396_427.out
       have hnb73 := NB427_405.out
       have hnc73 := NB405_427.out
       have hnb74 := NB427_414.out
       have hnc74 := NB414_427.out
       have hnb75 := NB427_424.out
       have hnc75 := NB424_427.out
       have hnb76 := NB427_428.out
       have hnc76 := NB428_427.out
       obtain ⟨hcz77_0, hcz77_1, hcz77_2, hcz77_3, hcz77_4, hfz77_0, hfz77_1, hfz77_2, hfz77_3, hfz77_4⟩ := zc16_5 (w := w60) BK427.out
       go_wp2
       go_meet
       case rel => exact ⟨_, (false), (by first | rfl | (simp; done) | (simp [*]; done)), H', ⟨by have := HJ6.out; have := HK2.out; first | omega | exact Nat.le_refl _⟩, ⟨by (with_reducible repeat (first | apply Kd.R_alloc | apply Kd.R_drewN | apply Kd.R_drew)); exact Kd.R_mono (Kd.R_far (p := ⟨gb428, 4, none⟩) (Kd.R_far (p := ⟨gb428, 3, none⟩) (Kd.R_far (p := ⟨gb428, 2, none⟩) (Kd.R_far (p := ⟨gb428, 1, none⟩) (Kd.R_far (p := ⟨gb428, 0, none⟩) (Kd.R_far (p := ⟨gb427, 4, none⟩) (Kd.R_far (p := ⟨gb427, 3, none⟩) (Kd.R_far (p := ⟨gb427, 2, none⟩) (Kd.R_far (p := ⟨gb427, 1, none⟩) (Kd.R_far (p := ⟨gb427, 0, none⟩) (Kd.R_mono (Kd.R_mono HO_397001.out (fun k_ hk => (⟨hk, hk.2.2.2.1⟩ : _ ∧ k_ ≠ gb427))) (fun k_ hk => (⟨hk, hk.1.2.2.2.2⟩ : _ ∧ k_ ≠ gb428))) (fun _ hk => hk.1.2) (.int .i64 ((rd_T52 t389 x11_2).f0))) (fun _ hk => hk.1.2) (.int .i64 ((rd_T52 t389 x11_2).f1))) (fun _ hk => hk.1.2) (.int .i64 ((rd_T52 t389 x11_2).f2))) (fun _ hk => hk.1.2) (.int .i64 ((rd_T52 t389 x11_2).f3))) (fun _ hk => hk.1.2) (.int .i64 ((rd_T52 t389 x11_2).f4))) (fun _ hk => hk.2) (.int .i64 ((rd_T52 t398 x11_2).f0))) (fun _ hk => hk.2) (.int .i64 ((rd_T52 t398 x11_2).f1))) (fun _ hk => hk.2) (.int .i64 ((rd_T52 t398 x11_2).f2))) (fun _ hk => hk.2) (.int .i64 ((rd_T52 t398 x11_2).f3))) (fun _ hk => hk.2) (.int .i64 ((rd_T52 t398 x11_2).f4))) (fun _ hk => ⟨hk.1.1.1, ⟨hk.1.1.2.1, ⟨hk.1.1.2.2.1, ⟨hk.1.1.2.2.2.1, hk.1.1.2.2.2.2⟩⟩⟩⟩)⟩, ⟨by (with_reducible repeat (first | apply Kd.R_alloc | apply Kd.R_drewN | apply Kd.R_drew)); exact Kd.R_mono (Kd.R_far (p := ⟨gb428, 4, none⟩) (Kd.R_far (p := ⟨gb428, 3, none⟩) (Kd.R_far (p := ⟨gb428, 2, none⟩) (Kd.R_far (p := ⟨gb428, 1, none⟩) (Kd.R_far (p := ⟨gb428, 0, none⟩) (Kd.R_far (p := ⟨gb427, 4, none⟩) (Kd.R_far (p := ⟨gb427, 3, none⟩) (Kd.R_far (p := ⟨gb427, 2, none⟩) (Kd.R_far (p := ⟨gb427, 1, none⟩) (Kd.R_far (p := ⟨gb427, 0, none⟩) (Kd.R_types (Kd.R_types HO_397002.out BK427.out (by decide)) BK428.out (by decide)) (fun _ hk => hk.1.2) (.int .i64 ((rd_T52 t389 x11_2).f0))) (fun _ hk => hk.1.2) (.int .i64 ((rd_T52 t389 x11_2).f1))) (fun _ hk => hk.1.2) (.int .i64 ((rd_T52 t389 x11_2).f2))) (fun _ hk => hk.1.2) (.int .i64 ((rd_T52 t389 x11_2).f3))) (fun _ hk => hk.1.2) (.int .i64 ((rd_T52 t389 x11_2).f4))) (fun _ hk => hk.2) (.int .i64 ((rd_T52 t398 x11_2).f0))) (fun _ hk => hk.2) (.int .i64 ((rd_T52 t398 x11_2).f1))) (fun _ hk => hk.2) (.int .i64 ((rd_T52 t398 x11_2).f2))) (fun _ hk => hk.2) (.int .i64 ((rd_T52 t398 x11_2).f3))) (fun _ hk => hk.2) (.int .i64 ((rd_T52 t398 x11_2).f4))) (fun _ hk => ⟨hk.1.1.1, ⟨hk.1.1.2.1, hk.1.1.2.2⟩⟩)⟩, ⟨by (with_reducible repeat (first | apply Kd.R_alloc | apply Kd.R_drewN | apply Kd.R_drew)); exact Kd.R_mono (Kd.R_far (p := ⟨gb428, 4, none⟩) (Kd.R_far (p := ⟨gb428, 3, none⟩) (Kd.R_far (p := ⟨gb428, 2, none⟩) (Kd.R_far (p := ⟨gb428, 1, none⟩) (Kd.R_far (p := ⟨gb428, 0, none⟩) (Kd.R_far (p := ⟨gb427, 4, none⟩) (Kd.R_far (p := ⟨gb427, 3, none⟩) (Kd.R_far (p := ⟨gb427, 2, none⟩) (Kd.R_far (p := ⟨gb427, 1, none⟩) (Kd.R_far (p := ⟨gb427, 0, none⟩) (Kd.R_mono (Kd.R_mono HO_406001.out (fun k_ hk => (⟨hk, hk.2.2.2.1⟩ : _ ∧ k_ ≠ gb427))) (fun k_ hk => (⟨hk, hk.1.2.2.2.2⟩ : _ ∧ k_ ≠ gb428))) (fun _ hk => hk.1.2) (.int .i64 ((rd_T52 t389 x11_2).f0))) (fun _ hk => hk.1.2) (.int .i64 ((rd_T52 t389 x11_2).f1))) (fun _ hk => hk.1.2) (.int .i64 ((rd_T52 t389 x11_2).f2))) (fun _ hk => hk.1.2) (.int .i64 ((rd_T52 t389 x11_2).f3))) (fun _ hk => hk.1.2) (.int .i64 ((rd_T52 t389 x11_2).f4))) (fun _ hk => hk.2) (.int .i64 ((rd_T52 t398 x11_2).f0))) (fun _ hk => hk.2) (.int .i64 ((rd_T52 t398 x11_2).f1))) (fun _ hk => hk.2) (.int .i64 ((rd_T52 t398 x11_2).f2))) (fun _ hk => hk.2) (.int .i64 ((rd_T52 t398 x11_2).f3))) (fun _ hk => hk.2) (.int .i64 ((rd_T52 t398 x11_2).f4))) (fun _ hk => ⟨hk.1.1.1, ⟨hk.1.1.2.1, ⟨hk.1.1.2.2.1, ⟨hk.1.1.2.2.2.1, hk.1.1.2.2.2.2⟩⟩⟩⟩)⟩, ⟨by (with_reducible repeat (first | apply Kd.R_alloc | apply Kd.R_drewN | apply Kd.R_drew)); exact Kd.R_mono (Kd.R_far (p := ⟨gb428, 4, none⟩) (Kd.R_far (p := ⟨gb428, 3, none⟩) (Kd.R_far (p := ⟨gb428, 2, none⟩) (Kd.R_far (p := ⟨gb428, 1, none⟩) (Kd.R_far (p := ⟨gb428, 0, none⟩) (Kd.R_far (p := ⟨gb427, 4, none⟩) (Kd.R_far (p := ⟨gb427, 3, none⟩) (Kd.R_far (p := ⟨gb427, 2, none⟩) (Kd.R_far (p := ⟨gb427, 1, none⟩) (Kd.R_far (p := ⟨gb427, 0, none⟩) (Kd.R_types (Kd.R_types HO_406002.out BK427.out (by decide)) BK428.out (by decide)) (fun _ hk => hk.1.2) (.int .i64 ((rd_T52 t389 x11_2).f0))) (fun _ hk => hk.1.2) (.int .i64 ((rd_T52 t389 x11_2).f1))) (fun _ hk => hk.1.2) (.int .i64 ((rd_T52 t389 x11_2).f2))) (fun _ hk => hk.1.2) (.int .i64 ((rd_T52 t389 x11_2).f3))) (fun _ hk => hk.1.2) (.int .i64 ((rd_T52 t389 x11_2).f4))) (fun _ hk => hk.2) (.int .i64 ((rd_T52 t398 x11_2).f0))) (fun _ hk => hk.2) (.int .i64 ((rd_T52 t398 x11_2).f1))) (fun _ hk => hk.2) (.int .i64 ((rd_T52 t398 x11_2).f2))) (fun _ hk => hk.2) (.int .i64 ((rd_T52 t398 x11_2).f3))) (fun _ hk => hk.2) (.int .i64 ((rd_T52 t398 x11_2).f4))) (fun _ hk => ⟨hk.1.1.1, ⟨hk.1.1.2.1, hk.1.1.2.2⟩⟩)⟩, ⟨by (with_reducible repeat (first | apply Kd.R_alloc | apply Kd.R_drewN | apply Kd.R_drew)); exact Kd.R_mono (Kd.R_far (p := ⟨gb428, 4, none⟩) (Kd.R_far (p := ⟨gb428, 3, none⟩) (Kd.R_far (p := ⟨gb428, 2, none⟩) (Kd.R_far (p := ⟨gb428, 1, none⟩) (Kd.R_far (p := ⟨gb428, 0, none⟩) (Kd.R_far (p := ⟨gb427, 4, none⟩) (Kd.R_far (p := ⟨gb427, 3, none⟩) (Kd.R_far (p := ⟨gb427, 2, none⟩) (Kd.R_far (p := ⟨gb427, 1, none⟩) (Kd.R_far (p := ⟨gb427, 0, none⟩) (Kd.R_mono (Kd.R_mono HO_415001.out (fun k_ hk => (⟨hk, hk.2.2.2.1⟩ : _ ∧ k_ ≠ gb427))) (fun k_ hk => (⟨hk, hk.1.2.2.2.2⟩ : _ ∧ k_ ≠ gb428))) (fun _ hk => hk.1.2) (.int .i64 ((rd_T52 t389 x11_2).f0))) (fun _ hk => hk.1.2) (.int .i64 ((rd_T52 t389 x11_2).f1))) (fun _ hk => hk.1.2) (.int .i64 ((rd_T52 t389 x11_2).f2))) (fun _ hk => hk.1.2) (.int .i64 ((rd_T52 t389 x11_2).f3))) (fun _ hk => hk.1.2) (.int .i64 ((rd_T52 t389 x11_2).f4))) (fun _ hk => hk.2) (.int .i64 ((rd_T52 t398 x11_2).f0))) (fun _ hk => hk.2) (.int .i64 ((rd_T52 t398 x11_2).f1))) (fun _ hk => hk.2) (.int .i64 ((rd_T52 t398 x11_2).f2))) (fun _ hk => hk.2) (.int .i64 ((rd_T52 t398 x11_2).f3))) (fun _ hk => hk.2) (.int .i64 ((rd_T52 t398 x11_2).f4))) (fun _ hk => ⟨hk.1.1.1, ⟨hk.1.1.2.1, ⟨hk.1.1.2.2.1, ⟨hk.1.1.2.2.2.1, hk.1.1.2.2.2.2⟩⟩⟩⟩)⟩, ⟨by (with_reducible repeat (first | apply Kd.R_alloc | apply Kd.R_drewN | apply Kd.R_drew)); exact Kd.R_mono (Kd.R_far (p := ⟨gb428, 4, none⟩) (Kd.R_far (p := ⟨gb428, 3, none⟩) (Kd.R_far (p := ⟨gb428, 2, none⟩) (Kd.R_far (p := ⟨gb428, 1, none⟩) (Kd.R_far (p := ⟨gb428, 0, none⟩) (Kd.R_far (p := ⟨gb427, 4, none⟩) (Kd.R_far (p := ⟨gb427, 3, none⟩) (Kd.R_far (p := ⟨gb427, 2, none⟩) (Kd.R_far (p := ⟨gb427, 1, none⟩) (Kd.R_far (p := ⟨gb427, 0, none⟩) (Kd.R_types (Kd.R_types HO_415002.out BK427.out (by decide)) BK428.out (by decide)) (fun _ hk => hk.1.2) (.int .i64 ((rd_T52 t389 x11_2).f0))) (fun _ hk => hk.1.2) (.int .i64 ((rd_T52 t389 x11_2).f1))) (fun _ hk => hk.1.2) (.int .i64 ((rd_T52 t389 x11_2).f2))) (fun _ hk => hk.1.2) (.int .i64 ((rd_T52 t389 x11_2).f3))) (fun _ hk => hk.1.2) (.int .i64 ((rd_T52 t389 x11_2).f4))) (fun _ hk => hk.2) (.int .i64 ((rd_T52 t398 x11_2).f0))) (fun _ hk => hk.2) (.int .i64 ((rd_T52 t398 x11_2).f1))) (fun _ hk => hk.2) (.int .i64 ((rd_T52 t398 x11_2).f2))) (fun _ hk => hk.2) (.int .i64 ((rd_T52 t398 x11_2).f3))) (fun _ hk => hk.2) (.int .i64 ((rd_T52 t398 x11_2).f4))) (fun _ hk => ⟨hk.1.1.1, ⟨hk.1.1.2.1, hk.1.1.2.2⟩⟩)⟩, ⟨by (with_reducible repeat (first | apply Kd.R_alloc | apply Kd.R_drewN | apply Kd.R_drew)); exact Kd.R_mono (Kd.R_far (p := ⟨gb428, 4, none⟩) (Kd.R_far (p := ⟨gb428, 3, none⟩) (Kd.R_far (p := ⟨gb428, 2, none⟩) (Kd.R_far (p := ⟨gb428, 1, none⟩) (Kd.R_far (p := ⟨gb428, 0, none⟩) (Kd.R_far (p := ⟨gb427, 4, none⟩) (Kd.R_far (p := ⟨gb427, 3, none⟩) (Kd.R_far (p := ⟨gb427, 2, none⟩) (Kd.R_far (p := ⟨gb427, 1, none⟩) (Kd.R_far (p := ⟨gb427, 0, none⟩) (Kd.R_mono (Kd.R_mono HO_425001.out (fun k_ hk => (⟨hk, hk.2.2.2.1⟩ : _ ∧ k_ ≠ gb427))) (fun k_ hk => (⟨hk, hk.1.2.2.2.2⟩ : _ ∧ k_ ≠ gb428))) (fun _ hk => hk.1.2) (.int .i64 ((rd_T52 t389 x11_2).f0))) (fun _ hk => hk.1.2) (.int .i64 ((rd_T52 t389 x11_2).f1))) (fun _ hk => hk.1.2) (.int .i64 ((rd_T52 t389 x11_2).f2))) (fun _ hk => hk.1.2) (.int .i64 ((rd_T52 t389 x11_2).f3))) (fun _ hk => hk.1.2) (.int .i64 ((rd_T52 t389 x11_2).f4))) (fun _ hk => hk.2) (.int .i64 ((rd_T52 t398 x11_2).f0))) (fun _ hk => hk.2) (.int .i64 ((rd_T52 t398 x11_2).f1))) (fun _ hk => hk.2) (.int .i64 ((rd_T52 t398 x11_2).f2))) (fun _ hk => hk.2) (.int .i64 ((rd_T52 t398 x11_2).f3))) (fun _ hk => hk.2) (.int .i64 ((rd_T52 t398 x11_2).f4))) (fun _ hk => ⟨hk.1.1.1, ⟨hk.1.1.2.1, ⟨hk.1.1.2.2.1, ⟨hk.1.1.2.2.2.1, hk.1.1.2.2.2.2⟩⟩⟩⟩)⟩, ⟨by (with_reducible repeat (first | apply Kd.R_alloc | apply Kd.R_drewN | apply Kd.R_drew)); exact Kd.R_mono (Kd.R_far (p := ⟨gb428, 4, none⟩) (Kd.R_far (p := ⟨gb428, 3, none⟩) (Kd.R_far (p := ⟨gb428, 2, none⟩) (Kd.R_far (p := ⟨gb428, 1, none⟩) (Kd.R_far (p := ⟨gb428, 0, none⟩) (Kd.R_far (p := ⟨gb427, 4, none⟩) (Kd.R_far (p := ⟨gb427, 3, none⟩) (Kd.R_far (p := ⟨gb427, 2, none⟩) (Kd.R_far (p := ⟨gb427, 1, none⟩) (Kd.R_far (p := ⟨gb427, 0, none⟩) (Kd.R_types (Kd.R_types HO_425002.out BK427.out (by decide)) BK428.out (by decide)) (fun _ hk => hk.1.2) (.int .i64 ((rd_T52 t389 x11_2).f0))) (fun _ hk => hk.1.2) (.int .i64 ((rd_T52 t389 x11_2).f1))) (fun _ hk => hk.1.2) (.int .i64 ((rd_T52 t389 x11_2).f2))) (fun _ hk => hk.1.2) (.int .i64 ((rd_T52 t389 x11_2).f3))) (fun _ hk => hk.1.2) (.int .i64 ((rd_T52 t389 x11_2).f4))) (fun _ hk => hk.2) (.int .i64 ((rd_T52 t398 x11_2).f0))) (fun _ hk => hk.2) (.int .i64 ((rd_T52 t398 x11_2).f1))) (fun _ hk => hk.2) (.int .i64 ((rd_T52 t398 x11_2).f2))) (fun _ hk => hk.2) (.int .i64 ((rd_T52 t398 x11_2).f3))) (fun _ hk => hk.2) (.int .i64 ((rd_T52 t398 x11_2).f4))) (fun _ hk => ⟨hk.1.1.1, ⟨hk.1.1.2.1, hk.1.1.2.2⟩⟩)⟩, ⟨by refine zP16 ?_; refine blk_far ?_ NB396_428.out _; refine zP16 ?_; refine blk_far ?_ NB396_428.out _; refine zP16 ?_; refine blk_far ?_ NB396_428.out _; refine zP16 ?_; refine blk_far ?_ NB396_428.out _; refine zP16 ?_; refine blk_far ?_ NB396_428.out _; refine zP16 ?_; refine blk_far ?_ NB396_427.out _; refine zP16 ?_; refine blk_far ?_ NB396_427.out _; refine zP16 ?_; refine blk_far ?_ NB396_427.out _; refine zP16 ?_; refine blk_far ?_ NB396_427.out _; refine zP16 ?_; refine blk_far ?_ NB396_427.out _; refine zP16 ?_; exact BK396.out⟩, ⟨by refine zP16 ?_; refine blk_far ?_ NB405_428.out _; refine zP16 ?_; refine blk_far ?_ NB405_428.out _; refine zP16 ?_; refine blk_far ?_ NB405_428.out _; refine zP16 ?_; refine blk_far ?_ NB405_428.out _; refine zP16 ?_; refine blk_far ?_ NB405_428.out _; refine zP16 ?_; refine blk_far ?_ NB405_427.out _; refine zP16 ?_; refine blk_far ?_ NB405_427.out _; refine zP16 ?_; refine blk_far ?_ NB405_427.out _; refine zP16 ?_; refine blk_far ?_ NB405_427.out _; refine zP16 ?_; refine blk_far ?_ NB405_427.out _; refine zP16 ?_; exact BK405.out⟩, ⟨by refine zP16 ?_; refine blk_far ?_ NB414_428.out _; refine zP16 ?_; refine blk_far ?_ NB414_428.out _; refine zP16 ?_; refine blk_far ?_ NB414_428.out _; refine zP16 ?_; refine blk_far ?_ NB414_428.out _; refine zP16 ?_; refine blk_far ?_ NB414_428.out _; refine zP16 ?_; refine blk_far ?_ NB414_427.out _; refine zP16 ?_; refine blk_far ?_ NB414_427.out _; refine zP16 ?_; refine blk_far ?_ NB414_427.out _; refine zP16 ?_; refine blk_far ?_ NB414_427.out _; refine zP16 ?_; refine blk_far ?_ NB414_427.out _; refine zP16 ?_; exact BK414.out⟩, ⟨by refine zP16 ?_; refine blk_far ?_ NB424_428.out _; refine zP16 ?_; refine blk_far ?_ NB424_428.out _; refine zP16 ?_; refine blk_far ?_ NB424_428.out _; refine zP16 ?_; refine blk_far ?_ NB424_428.out _; refine zP16 ?_; refine blk_far ?_ NB424_428.out _; refine zP16 ?_; refine blk_far ?_ NB424_427.out _; refine zP16 ?_; refine blk_far ?_ NB424_427.out _; refine zP16 ?_; refine blk_far ?_ NB424_427.out _; refine zP16 ?_; refine blk_far ?_ NB424_427.out _; refine zP16 ?_; refine blk_far ?_ NB424_427.out _; refine zP16 ?_; exact BK424.out⟩, ⟨by refine zP16 ?_; refine blk_far ?_ NB427_428.out _; refine zP16 ?_; refine blk_far ?_ NB427_428.out _; refine zP16 ?_; refine blk_far ?_ NB427_428.out _; refine zP16 ?_; refine blk_far ?_ NB427_428.out _; refine zP16 ?_; refine blk_far ?_ NB427_428.out _; refine zP16 ?_; refine blk_put (cs := #[.int .i64 ((rd_T52 t389 x11_2).f0), .int .i64 ((rd_T52 t389 x11_2).f1), .int .i64 ((rd_T52 t389 x11_2).f2), .int .i64 ((rd_T52 t389 x11_2).f3), .int .i64 0]) ?_ 4 _ rfl; refine zP16 ?_; refine blk_put (cs := #[.int .i64 ((rd_T52 t389 x11_2).f0), .int .i64 ((rd_T52 t389 x11_2).f1), .int .i64 ((rd_T52 t389 x11_2).f2), .int .i64 0, .int .i64 0]) ?_ 3 _ rfl; refine zP16 ?_; refine blk_put (cs := #[.int .i64 ((rd_T52 t389 x11_2).f0), .int .i64 ((rd_T52 t389 x11_2).f1), .int .i64 0, .int .i64 0, .int .i64 0]) ?_ 2 _ rfl; refine zP16 ?_; refine blk_put (cs := #[.int .i64 ((rd_T52 t389 x11_2).f0), .int .i64 0, .int .i64 0, .int .i64 0, .int .i64 0]) ?_ 1 _ rfl; refine zP16 ?_; refine blk_put (cs := #[.int .i64 0, .int .i64 0, .int .i64 0, .int .i64 0, .int .i64 0]) ?_ 0 _ rfl; refine zP16 ?_; exact BK427.out⟩, ⟨by refine zP16 ?_; refine blk_put (cs := #[.int .i64 ((rd_T52 t398 x11_2).f0), .int .i64 ((rd_T52 t398 x11_2).f1), .int .i64 ((rd_T52 t398 x11_2).f2), .int .i64 ((rd_T52 t398 x11_2).f3), .int .i64 0]) ?_ 4 _ rfl; refine zP16 ?_; refine blk_put (cs := #[.int .i64 ((rd_T52 t398 x11_2).f0), .int .i64 ((rd_T52 t398 x11_2).f1), .int .i64 ((rd_T52 t398 x11_2).f2), .int .i64 0, .int .i64 0]) ?_ 3 _ rfl; refine zP16 ?_; refine blk_put (cs := #[.int .i64 ((rd_T52 t398 x11_2).f0), .int .i64 ((rd_T52 t398 x11_2).f1), .int .i64 0, .int .i64 0, .int .i64 0]) ?_ 2 _ rfl; refine zP16 ?_; refine blk_put (cs := #[.int .i64 ((rd_T52 t398 x11_2).f0), .int .i64 0, .int .i64 0, .int .i64 0, .int .i64 0]) ?_ 1 _ rfl; refine zP16 ?_; refine blk_put (cs := #[.int .i64 0, .int .i64 0, .int .i64 0, .int .i64 0, .int .i64 0]) ?_ 0 _ rfl; refine zP16 ?_; refine blk_far ?_ NB428_427.out _; refine zP16 ?_; refine blk_far ?_ NB428_427.out _; refine zP16 ?_; refine blk_far ?_ NB428_427.out _; refine zP16 ?_; refine blk_far ?_ NB428_427.out _; refine zP16 ?_; refine blk_far ?_ NB428_427.out _; refine zP16 ?_; exact BK428.out⟩, ⟨zB16_6⟩⟩
      rw [if_neg c71] at H
      have c71b0 : (((rd_T52 t389 x11_2).f0) == 8) = false := beq_eq_false_iff_ne.mpr c71
      have c71b1 : (((rd_T52 t389 x11_2).f0) != 8) = true := bne_iff_ne.mpr c71
      (first | rw [c71b0] | (simp only [i64_w, i32_w]; rw [c71b0]) | skip)
      by_cases c78 : ((rd_T52 t389 x11_2).f0) = 7
      ·rw [if_pos c78] at H
       have c78b0 : (((rd_T52 t389 x11_2).f0) == 7) = true := beq_iff_eq.mpr c78
       have c78b1 : (((rd_T52 t389 x11_2).f0) != 7) = false := bne_eq_false_iff_eq.mpr c78
       clear c78
       have H' := Aside0.mk H
       clear H
       have hnb79 := NB427_396.out
       have hnc79 := NB396_427.out
       have hnb80 := NB427_405.out
       have hnc80 := NB405_427.out
       have hnb81 := NB427_414.out
       have hnc81 := NB414_427.out
       have hnb82 := NB427_424.out
       have hnc82 := NB424_427.out
       have hnb83 := NB427_428.out
       have hnc83 := NB428_427.out
       obtain ⟨hcz84_0, hcz84_1, hcz84_2, hcz84_3, hcz84_4, hfz84_0, hfz84_1, hfz84_2, hfz84_3, hfz84_4⟩ := zc16_5 (w := w60) BK427.out
       go_wp2
       go_meet
       case rel => exact ⟨_, (false), (by first | rfl | (simp; done) | (simp [*]; done)), H', ⟨by have := HJ6.out; have := HK2.out; first | omega | exact Nat.le_refl _⟩, ⟨by (with_reducible repeat (first | apply Kd.R_alloc | apply Kd.R_drewN | apply Kd.R_drew)); exact Kd.R_mono (Kd.R_far (p := ⟨gb428, 4, none⟩) (Kd.R_far (p := ⟨gb428, 3, none⟩) (Kd.R_far (p := ⟨gb428, 2, none⟩) (Kd.R_far (p := ⟨gb428, 1, none⟩) (Kd.R_far (p := ⟨gb428, 0, none⟩) (Kd.R_far (p := ⟨gb427, 4, none⟩) (Kd.R_far (p := ⟨gb427, 3, none⟩) (Kd.R_far (p := ⟨gb427, 2, none⟩) (Kd.R_far (p := ⟨gb427, 1, none⟩) (Kd.R_far (p := ⟨gb427, 0, none⟩) (Kd.R_mono (Kd.R_mono HO_397001.out (fun k_ hk => (⟨hk, hk.2.2.2.1⟩ : _ ∧ k_ ≠ gb427))) (fun k_ hk => (⟨hk, hk.1.2.2.2.2⟩ : _ ∧ k_ ≠ gb428))) (fun _ hk => hk.1.2) (.int .i64 ((rd_T52 t389 x11_2).f0))) (fun _ hk => hk.1.2) (.int .i64 ((rd_T52 t389 x11_2).f1))) (fun _ hk => hk.1.2) (.int .i64 ((rd_T52 t389 x11_2).f2))) (fun _ hk => hk.1.2) (.int .i64 ((rd_T52 t389 x11_2).f3))) (fun _ hk => hk.1.2) (.int .i64 ((rd_T52 t389 x11_2).f4))) (fun _ hk => hk.2) (.int .i64 ((rd_T52 t398 x11_2).f0))) (fun _ hk => hk.2) (.int .i64 ((rd_T52 t398 x11_2).f1))) (fun _ hk => hk.2) (.int .i64 ((rd_T52 t398 x11_2).f2))) (fun _ hk => hk.2) (.int .i64 ((rd_T52 t398 x11_2).f3))) (fun _ hk => hk.2) (.int .i64 ((rd_T52 t398 x11_2).f4))) (fun _ hk => ⟨hk.1.1.1, ⟨hk.1.1.2.1, ⟨hk.1.1.2.2.1, ⟨hk.1.1.2.2.2.1, hk.1.1.2.2.2.2⟩⟩⟩⟩)⟩, ⟨by (with_reducible repeat (first | apply Kd.R_alloc | apply Kd.R_drewN | apply Kd.R_drew)); exact Kd.R_mono (Kd.R_far (p := ⟨gb428, 4, none⟩) (Kd.R_far (p := ⟨gb428, 3, none⟩) (Kd.R_far (p := ⟨gb428, 2, none⟩) (Kd.R_far (p := ⟨gb428, 1, none⟩) (Kd.R_far (p := ⟨gb428, 0, none⟩) (Kd.R_far (p := ⟨gb427, 4, none⟩) (Kd.R_far (p := ⟨gb427, 3, none⟩) (Kd.R_far (p := ⟨gb427, 2, none⟩) (Kd.R_far (p := ⟨gb427, 1, none⟩) (Kd.R_far (p := ⟨gb427, 0, none⟩) (Kd.R_types (Kd.R_types HO_397002.out BK427.out (by decide)) BK428.out (by decide)) (fun _ hk => hk.1.2) (.int .i64 ((rd_T52 t389 x11_2).f0))) (fun _ hk => hk.1.2) (.int .i64 ((rd_T52 t389 x11_2).f1))) (fun _ hk => hk.1.2) (.int .i64 ((rd_T52 t389 x11_2).f2))) (fun _ hk => hk.1.2) (.int .i64 ((rd_T52 t389 x11_2).f3))) (fun _ hk => hk.1.2) (.int .i64 ((rd_T52 t389 x11_2).f4))) (fun _ hk => hk.2) (.int .i64 ((rd_T52 t398 x11_2).f0))) (fun _ hk => hk.2) (.int .i64 ((rd_T52 t398 x11_2).f1))) (fun _ hk => hk.2) (.int .i64 ((rd_T52 t398 x11_2).f2))) (fun _ hk => hk.2) (.int .i64 ((rd_T52 t398 x11_2).f3))) (fun _ hk => hk.2) (.int .i64 ((rd_T52 t398 x11_2).f4))) (fun _ hk => ⟨hk.1.1.1, ⟨hk.1.1.2.1, hk.1.1.2.2⟩⟩)⟩, ⟨by (with_reducible repeat (first | apply Kd.R_alloc | apply Kd.R_drewN | apply Kd.R_drew)); exact Kd.R_mono (Kd.R_far (p := ⟨gb428, 4, none⟩) (Kd.R_far (p := ⟨gb428, 3, none⟩) (Kd.R_far (p := ⟨gb428, 2, none⟩) (Kd.R_far (p := ⟨gb428, 1, none⟩) (Kd.R_far (p := ⟨gb428, 0, none⟩) (Kd.R_far (p := ⟨gb427, 4, none⟩) (Kd.R_far (p := ⟨gb427, 3, none⟩) (Kd.R_far (p := ⟨gb427, 2, none⟩) (Kd.R_far (p := ⟨gb427, 1, none⟩) (Kd.R_far (p := ⟨gb427, 0, none⟩) (Kd.R_mono (Kd.R_mono HO_406001.out (fun k_ hk => (⟨hk, hk.2.2.2.1⟩ : _ ∧ k_ ≠ gb427))) (fun k_ hk => (⟨hk, hk.1.2.2.2.2⟩ : _ ∧ k_ ≠ gb428))) (fun _ hk => hk.1.2) (.int .i64 ((rd_T52 t389 x11_2).f0))) (fun _ hk => hk.1.2) (.int .i64 ((rd_T52 t389 x11_2).f1))) (fun _ hk => hk.1.2) (.int .i64 ((rd_T52 t389 x11_2).f2))) (fun _ hk => hk.1.2) (.int .i64 ((rd_T52 t389 x11_2).f3))) (fun _ hk => hk.1.2) (.int .i64 ((rd_T52 t389 x11_2).f4))) (fun _ hk => hk.2) (.int .i64 ((rd_T52 t398 x11_2).f0))) (fun _ hk => hk.2) (.int .i64 ((rd_T52 t398 x11_2).f1))) (fun _ hk => hk.2) (.int .i64 ((rd_T52 t398 x11_2).f2))) (fun _ hk => hk.2) (.int .i64 ((rd_T52 t398 x11_2).f3))) (fun _ hk => hk.2) (.int .i64 ((rd_T52 t398 x11_2).f4))) (fun _ hk => ⟨hk.1.1.1, ⟨hk.1.1.2.1, ⟨hk.1.1.2.2.1, ⟨hk.1.1.2.2.2.1, hk.1.1.2.2.2.2⟩⟩⟩⟩)⟩, ⟨by (with_reducible repeat (first | apply Kd.R_alloc | apply Kd.R_drewN | apply Kd.R_drew)); exact Kd.R_mono (Kd.R_far (p := ⟨gb428, 4, none⟩) (Kd.R_far (p := ⟨gb428, 3, none⟩) (Kd.R_far (p := ⟨gb428, 2, none⟩) (Kd.R_far (p := ⟨gb428, 1, none⟩) (Kd.R_far (p := ⟨gb428, 0, none⟩) (Kd.R_far (p := ⟨gb427, 4, none⟩) (Kd.R_far (p := ⟨gb427, 3, none⟩) (Kd.R_far (p := ⟨gb427, 2, none⟩) (Kd.R_far (p := ⟨gb427, 1, none⟩) (Kd.R_far (p := ⟨gb427, 0, none⟩) (Kd.R_types (Kd.R_types HO_406002.out BK427.out (by decide)) BK428.out (by decide)) (fun _ hk => hk.1.2) (.int .i64 ((rd_T52 t389 x11_2).f0))) (fun _ hk => hk.1.2) (.int .i64 ((rd_T52 t389 x11_2).f1))) (fun _ hk => hk.1.2) (.int .i64 ((rd_T52 t389 x11_2).f2))) (fun _ hk => hk.1.2) (.int .i64 ((rd_T52 t389 x11_2).f3))) (fun _ hk => hk.1.2) (.int .i64 ((rd_T52 t389 x11_2).f4))) (fun _ hk => hk.2) (.int .i64 ((rd_T52 t398 x11_2).f0))) (fun _ hk => hk.2) (.int .i64 ((rd_T52 t398 x11_2).f1))) (fun _ hk => hk.2) (.int .i64 ((rd_T52 t398 x11_2).f2))) (fun _ hk => hk.2) (.int .i64 ((rd_T52 t398 x11_2).f3))) (fun _ hk => hk.2) (.int .i64 ((rd_T52 t398 x11_2).f4))) (fun _ hk => ⟨hk.1.1.1, ⟨hk.1.1.2.1, hk.1.1.2.2⟩⟩)⟩, ⟨by (with_reducible repeat (first | apply Kd.R_alloc | apply Kd.R_drewN | apply Kd.R_drew)); exact Kd.R_mono (Kd.R_far (p := ⟨gb428, 4, none⟩) (Kd.R_far (p := ⟨gb428, 3, none⟩) (Kd.R_far (p := ⟨gb428, 2, none⟩) (Kd.R_far (p := ⟨gb428, 1, none⟩) (Kd.R_far (p := ⟨gb428, 0, none⟩) (Kd.R_far (p := ⟨gb427, 4, none⟩) (Kd.R_far (p := ⟨gb427, 3, none⟩) (Kd.R_far (p := ⟨gb427, 2, none⟩) (Kd.R_far (p := ⟨gb427, 1, none⟩) (Kd.R_far (p := ⟨gb427, 0, none⟩) (Kd.R_mono (Kd.R_mono HO_415001.out (fun k_ hk => (⟨hk, hk.2.2.2.1⟩ : _ ∧ k_ ≠ gb427))) (fun k_ hk => (⟨hk, hk.1.2.2.2.2⟩ : _ ∧ k_ ≠ gb428))) (fun _ hk => hk.1.2) (.int .i64 ((rd_T52 t389 x11_2).f0))) (fun _ hk => hk.1.2) (.int .i64 ((rd_T52 t389 x11_2).f1))) (fun _ hk => hk.1.2) (.int .i64 ((rd_T52 t389 x11_2).f2))) (fun _ hk => hk.1.2) (.int .i64 ((rd_T52 t389 x11_2).f3))) (fun _ hk => hk.1.2) (.int .i64 ((rd_T52 t389 x11_2).f4))) (fun _ hk => hk.2) (.int .i64 ((rd_T52 t398 x11_2).f0))) (fun _ hk => hk.2) (.int .i64 ((rd_T52 t398 x11_2).f1))) (fun _ hk => hk.2) (.int .i64 ((rd_T52 t398 x11_2).f2))) (fun _ hk => hk.2) (.int .i64 ((rd_T52 t398 x11_2).f3))) (fun _ hk => hk.2) (.int .i64 ((rd_T52 t398 x11_2).f4))) (fun _ hk => ⟨hk.1.1.1, ⟨hk.1.1.2.1, ⟨hk.1.1.2.2.1, ⟨hk.1.1.2.2.2.1, hk.1.1.2.2.2.2⟩⟩⟩⟩)⟩, ⟨by (with_reducible repeat (first | apply Kd.R_alloc | apply Kd.R_drewN | apply Kd.R_drew)); exact Kd.R_mono (Kd.R_far (p := ⟨gb428, 4, none⟩) (Kd.R_far (p := ⟨gb428, 3, none⟩) (Kd.R_far (p := ⟨gb428, 2, none⟩) (Kd.R_far (p := ⟨gb428, 1, none⟩) (Kd.R_far (p := ⟨gb428, 0, none⟩) (Kd.R_far (p := ⟨gb427, 4, none⟩) (Kd.R_far (p := ⟨gb427, 3, none⟩) (Kd.R_far (p := ⟨gb427, 2, none⟩) (Kd.R_far (p := ⟨gb427, 1, none⟩) (Kd.R_far (p := ⟨gb427, 0, none⟩) (Kd.R_types (Kd.R_types HO_415002.out BK427.out (by decide)) BK428.out (by decide)) (fun _ hk => hk.1.2) (.int .i64 ((rd_T52 t389 x11_2).f0))) (fun _ hk => hk.1.2) (.int .i64 ((rd_T52 t389 x11_2).f1))) (fun _ hk => hk.1.2) (.int .i64 ((rd_T52 t389 x11_2).f2))) (fun _ hk => hk.1.2) (.int .i64 ((rd_T52 t389 x11_2).f3))) (fun _ hk => hk.1.2) (.int .i64 ((rd_T52 t389 x11_2).f4))) (fun _ hk => hk.2) (.int .i64 ((rd_T52 t398 x11_2).f0))) (fun _ hk => hk.2) (.int .i64 ((rd_T52 t398 x11_2).f1))) (fun _ hk => hk.2) (.int .i64 ((rd_T52 t398 x11_2).f2))) (fun _ hk => hk.2) (.int .i64 ((rd_T52 t398 x11_2).f3))) (fun _ hk => hk.2) (.int .i64 ((rd_T52 t398 x11_2).f4))) (fun _ hk => ⟨hk.1.1.1, ⟨hk.1.1.2.1, hk.1.1.2.2⟩⟩)⟩, ⟨by (with_reducible repeat (first | apply Kd.R_alloc | apply Kd.R_drewN | apply Kd.R_drew)); exact Kd.R_mono (Kd.R_far (p := ⟨gb428, 4, none⟩) (Kd.R_far (p := ⟨gb428, 3, none⟩) (Kd.R_far (p := ⟨gb428, 2, none⟩) (Kd.R_far (p := ⟨gb428, 1, none⟩) (Kd.R_far (p := ⟨gb428, 0, none⟩) (Kd.R_far (p := ⟨gb427, 4, none⟩) (Kd.R_far (p := ⟨gb427, 3, none⟩) (Kd.R_far (p := ⟨gb427, 2, none⟩) (Kd.R_far (p := ⟨gb427, 1, none⟩) (Kd.R_far (p := ⟨gb427, 0, none⟩) (Kd.R_mono (Kd.R_mono HO_425001.out (fun k_ hk => (⟨hk, hk.2.2.2.1⟩ : _ ∧ k_ ≠ gb427))) (fun k_ hk => (⟨hk, hk.1.2.2.2.2⟩ : _ ∧ k_ ≠ gb428))) (fun _ hk => hk.1.2) (.int .i64 ((rd_T52 t389 x11_2).f0))) (fun _ hk => hk.1.2) (.int .i64 ((rd_T52 t389 x11_2).f1))) (fun _ hk => hk.1.2) (.int .i64 ((rd_T52 t389 x11_2).f2))) (fun _ hk => hk.1.2) (.int .i64 ((rd_T52 t389 x11_2).f3))) (fun _ hk => hk.1.2) (.int .i64 ((rd_T52 t389 x11_2).f4))) (fun _ hk => hk.2) (.int .i64 ((rd_T52 t398 x11_2).f0))) (fun _ hk => hk.2) (.int .i64 ((rd_T52 t398 x11_2).f1))) (fun _ hk => hk.2) (.int .i64 ((rd_T52 t398 x11_2).f2))) (fun _ hk => hk.2) (.int .i64 ((rd_T52 t398 x11_2).f3))) (fun _ hk => hk.2) (.int .i64 ((rd_T52 t398 x11_2).f4))) (fun _ hk => ⟨hk.1.1.1, ⟨hk.1.1.2.1, ⟨hk.1.1.2.2.1, ⟨hk.1.1.2.2.2.1, hk.1.1.2.2.2.2⟩⟩⟩⟩)⟩, ⟨by (with_reducible repeat (first | apply Kd.R_alloc | apply Kd.R_drewN | apply Kd.R_drew)); exact Kd.R_mono (Kd.R_far (p := ⟨gb428, 4, none⟩) (Kd.R_far (p := ⟨gb428, 3, none⟩) (Kd.R_far (p := ⟨gb428, 2, none⟩) (Kd.R_far (p := ⟨gb428, 1, none⟩) (Kd.R_far (p := ⟨gb428, 0, none⟩) (Kd.R_far (p := ⟨gb427, 4, none⟩) (Kd.R_far (p := ⟨gb427, 3, none⟩) (Kd.R_far (p := ⟨gb427, 2, none⟩) (Kd.R_far (p := ⟨gb427, 1, none⟩) (Kd.R_far (p := ⟨gb427, 0, none⟩) (Kd.R_types (Kd.R_types HO_425002.out BK427.out (by decide)) BK428.out (by decide)) (fun _ hk => hk.1.2) (.int .i64 ((rd_T52 t389 x11_2).f0))) (fun _ hk => hk.1.2) (.int .i64 ((rd_T52 t389 x11_2).f1))) (fun _ hk => hk.1.2) (.int .i64 ((rd_T52 t389 x11_2).f2))) (fun _ hk => hk.1.2) (.int .i64 ((rd_T52 t389 x11_2).f3))) (fun _ hk => hk.1.2) (.int .i64 ((rd_T52 t389 x11_2).f4))) (fun _ hk => hk.2) (.int .i64 ((rd_T52 t398 x11_2).f0))) (fun _ hk => hk.2) (.int .i64 ((rd_T52 t398 x11_2).f1))) (fun _ hk => hk.2) (.int .i64 ((rd_T52 t398 x11_2).f2))) (fun _ hk => hk.2) (.int .i64 ((rd_T52 t398 x11_2).f3))) (fun _ hk => hk.2) (.int .i64 ((rd_T52 t398 x11_2).f4))) (fun _ hk => ⟨hk.1.1.1, ⟨hk.1.1.2.1, hk.1.1.2.2⟩⟩)⟩, ⟨by refine zP16 ?_; refine blk_far ?_ NB396_428.out _; refine zP16 ?_; refine blk_far ?_ NB396_428.out _; refine zP16 ?_; refine blk_far ?_ NB396_428.out _; refine zP16 ?_; refine blk_far ?_ NB396_428.out _; refine zP16 ?_; refine blk_far ?_ NB396_428.out _; refine zP16 ?_; refine blk_far ?_ NB396_427.out _; refine zP16 ?_; refine blk_far ?_ NB396_427.out _; refine zP16 ?_; refine blk_far ?_ NB396_427.out _; refine zP16 ?_; refine blk_far ?_ NB396_427.out _; refine zP16 ?_; refine blk_far ?_ NB396_427.out _; refine zP16 ?_; exact BK396.out⟩, ⟨by refine zP16 ?_; refine blk_far ?_ NB405_428.out _; refine zP16 ?_; refine blk_far ?_ NB405_428.out _; refine zP16 ?_; refine blk_far ?_ NB405_428.out _; refine zP16 ?_; refine blk_far ?_ NB405_428.out _; refine zP16 ?_; refine blk_far ?_ NB405_428.out _; refine zP16 ?_; refine blk_far ?_ NB405_427.out _; refine zP16 ?_; refine blk_far ?_ NB405_427.out _; refine zP16 ?_; refine blk_far ?_ NB405_427.out _; refine zP16 ?_; refine blk_far ?_ NB405_427.out _; refine zP16 ?_; refine blk_far ?_ NB405_427.out _; refine zP16 ?_; exact BK405.out⟩, ⟨by refine zP16 ?_; refine blk_far ?_ NB414_428.out _; refine zP16 ?_; refine blk_far ?_ NB414_428.out _; refine zP16 ?_; refine blk_far ?_ NB414_428.out _; refine zP16 ?_; refine blk_far ?_ NB414_428.out _; refine zP16 ?_; refine blk_far ?_ NB414_428.out _; refine zP16 ?_; refine blk_far ?_ NB414_427.out _; refine zP16 ?_; refine blk_far ?_ NB414_427.out _; refine zP16 ?_; refine blk_far ?_ NB414_427.out _; refine zP16 ?_; refine blk_far ?_ NB414_427.out _; refine zP16 ?_; refine blk_far ?_ NB414_427.out _; refine zP16 ?_; exact BK414.out⟩, ⟨by refine zP16 ?_; refine blk_far ?_ NB424_428.out _; refine zP16 ?_; refine blk_far ?_ NB424_428.out _; refine zP16 ?_; refine blk_far ?_ NB424_428.out _; refine zP16 ?_; refine blk_far ?_ NB424_428.out _; refine zP16 ?_; refine blk_far ?_ NB424_428.out _; refine zP16 ?_; refine blk_far ?_ NB424_427.out _; refine zP16 ?_; refine blk_far ?_ NB424_427.out _; refine zP16 ?_; refine blk_far ?_ NB424_427.out _; refine zP16 ?_; refine blk_far ?_ NB424_427.out _; refine zP16 ?_; refine blk_far ?_ NB424_427.out _; refine zP16 ?_; exact BK424.out⟩, ⟨by refine zP16 ?_; refine blk_far ?_ NB427_428.out _; refine zP16 ?_; refine blk_far ?_ NB427_428.out _; refine zP16 ?_; refine blk_far ?_ NB427_428.out _; refine zP16 ?_; refine blk_far ?_ NB427_428.out _; refine zP16 ?_; refine blk_far ?_ NB427_428.out _; refine zP16 ?_; refine blk_put (cs := #[.int .i64 ((rd_T52 t389 x11_2).f0), .int .i64 ((rd_T52 t389 x11_2).f1), .int .i64 ((rd_T52 t389 x11_2).f2), .int .i64 ((rd_T52 t389 x11_2).f3), .int .i64 0]) ?_ 4 _ rfl; refine zP16 ?_; refine blk_put (cs := #[.int .i64 ((rd_T52 t389 x11_2).f0), .int .i64 ((rd_T52 t389 x11_2).f1), .int .i64 ((rd_T52 t389 x11_2).f2), .int .i64 0, .int .i64 0]) ?_ 3 _ rfl; refine zP16 ?_; refine blk_put (cs := #[.int .i64 ((rd_T52 t389 x11_2).f0), .int .i64 ((rd_T52 t389 x11_2).f1), .int .i64 0, .int .i64 0, .int .i64 0]) ?_ 2 _ rfl; refine zP16 ?_; refine blk_put (cs := #[.int .i64 ((rd_T52 t389 x11_2).f0), .int .i64 0, .int .i64 0, .int .i64 0, .int .i64 0]) ?_ 1 _ rfl; refine zP16 ?_; refine blk_put (cs := #[.int .i64 0, .int .i64 0, .int .i64 0, .int .i64 0, .int .i64 0]) ?_ 0 _ rfl; refine zP16 ?_; exact BK427.out⟩, ⟨by refine zP16 ?_; refine blk_put (cs := #[.int .i64 ((rd_T52 t398 x11_2).f0), .int .i64 ((rd_T52 t398 x11_2).f1), .int .i64 ((rd_T52 t398 x11_2).f2), .int .i64 ((rd_T52 t398 x11_2).f3), .int .i64 0]) ?_ 4 _ rfl; refine zP16 ?_; refine blk_put (cs := #[.int .i64 ((rd_T52 t398 x11_2).f0), .int .i64 ((rd_T52 t398 x11_2).f1), .int .i64 ((rd_T52 t398 x11_2).f2), .int .i64 0, .int .i64 0]) ?_ 3 _ rfl; refine zP16 ?_; refine blk_put (cs := #[.int .i64 ((rd_T52 t398 x11_2).f0), .int .i64 ((rd_T52 t398 x11_2).f1), .int .i64 0, .int .i64 0, .int .i64 0]) ?_ 2 _ rfl; refine zP16 ?_; refine blk_put (cs := #[.int .i64 ((rd_T52 t398 x11_2).f0), .int .i64 0, .int .i64 0, .int .i64 0, .int .i64 0]) ?_ 1 _ rfl; refine zP16 ?_; refine blk_put (cs := #[.int .i64 0, .int .i64 0, .int .i64 0, .int .i64 0, .int .i64 0]) ?_ 0 _ rfl; refine zP16 ?_; refine blk_far ?_ NB428_427.out _; refine zP16 ?_; refine blk_far ?_ NB428_427.out _; refine zP16 ?_; refine blk_far ?_ NB428_427.out _; refine zP16 ?_; refine blk_far ?_ NB428_427.out _; refine zP16 ?_; refine blk_far ?_ NB428_427.out _; refine zP16 ?_; exact BK428.out⟩, ⟨zB16_6⟩⟩
      rw [if_neg c78] at H
      have c78b0 : (((rd_T52 t389 x11_2).f0) == 7) = false := beq_eq_false_iff_ne.mpr c78
      have c78b1 : (((rd_T52 t389 x11_2).f0) != 7) = true := bne_iff_ne.mpr c78
      have H' := Aside0.mk H
      clear H
      have hnb85 := NB427_396.out
      have hnc85 := NB396_427.out
      have hnb86 := NB427_405.out
      have hnc86 := NB405_427.out
      have hnb87 := NB427_414.out
      have hnc87 := NB414_427.out
      have hnb88 := NB427_424.out
      have hnc88 := NB424_427.out
      have hnb89 := NB427_428.out
      have hnc89 := NB428_427.out
      obtain ⟨hcz90_0, hcz90_1, hcz90_2, hcz90_3, hcz90_4, hfz90_0, hfz90_1, hfz90_2, hfz90_3, hfz90_4⟩ := zc16_5 (w := w60) BK427.out
      have hnb91 := NB428_396.out
      have hnc91 := NB396_428.out
      have hnb92 := NB428_405.out
      have hnc92 := NB405_428.out
      have hnb93 := NB428_414.out
      have hnc93 := NB414_428.out
      have hnb94 := NB428_424.out
      have hnc94 := NB424_428.out
      obtain ⟨hcz95_0, hcz95_1, hcz95_2, hcz95_3, hcz95_4, hfz95_0, hfz95_1, hfz95_2, hfz95_3, hfz95_4⟩ := zc16_5 (w := w60) BK428.out
      go_wp2
      go_meet
      case rel => exact ⟨_, ((!(((rd_T52 t389 x11_2).f0) == ((rd_T52 t398 x11_2).f0)) || (!(((rd_T52 t389 x11_2).f1) == ((rd_T52 t398 x11_2).f1)) || (!(((rd_T52 t389 x11_2).f2) == ((rd_T52 t398 x11_2).f2)) || (!(((rd_T52 t389 x11_2).f3) == ((rd_T52 t398 x11_2).f3)) || (!(((rd_T52 t389 x11_2).f4) == ((rd_T52 t398 x11_2).f4)))))))), (by first | rfl | (simp; done) | (simp [*]; done)), H', ⟨by have := HJ6.out; have := HK2.out; first | omega | exact Nat.le_refl _⟩, ⟨by (with_reducible repeat (first | apply Kd.R_alloc | apply Kd.R_drewN | apply Kd.R_drew)); exact Kd.R_mono (Kd.R_far (p := ⟨gb428, 4, none⟩) (Kd.R_far (p := ⟨gb428, 3, none⟩) (Kd.R_far (p := ⟨gb428, 2, none⟩) (Kd.R_far (p := ⟨gb428, 1, none⟩) (Kd.R_far (p := ⟨gb428, 0, none⟩) (Kd.R_far (p := ⟨gb427, 4, none⟩) (Kd.R_far (p := ⟨gb427, 3, none⟩) (Kd.R_far (p := ⟨gb427, 2, none⟩) (Kd.R_far (p := ⟨gb427, 1, none⟩) (Kd.R_far (p := ⟨gb427, 0, none⟩) (Kd.R_mono (Kd.R_mono HO_397001.out (fun k_ hk => (⟨hk, hk.2.2.2.1⟩ : _ ∧ k_ ≠ gb427))) (fun k_ hk => (⟨hk, hk.1.2.2.2.2⟩ : _ ∧ k_ ≠ gb428))) (fun _ hk => hk.1.2) (.int .i64 ((rd_T52 t389 x11_2).f0))) (fun _ hk => hk.1.2) (.int .i64 ((rd_T52 t389 x11_2).f1))) (fun _ hk => hk.1.2) (.int .i64 ((rd_T52 t389 x11_2).f2))) (fun _ hk => hk.1.2) (.int .i64 ((rd_T52 t389 x11_2).f3))) (fun _ hk => hk.1.2) (.int .i64 ((rd_T52 t389 x11_2).f4))) (fun _ hk => hk.2) (.int .i64 ((rd_T52 t398 x11_2).f0))) (fun _ hk => hk.2) (.int .i64 ((rd_T52 t398 x11_2).f1))) (fun _ hk => hk.2) (.int .i64 ((rd_T52 t398 x11_2).f2))) (fun _ hk => hk.2) (.int .i64 ((rd_T52 t398 x11_2).f3))) (fun _ hk => hk.2) (.int .i64 ((rd_T52 t398 x11_2).f4))) (fun _ hk => ⟨hk.1.1.1, ⟨hk.1.1.2.1, ⟨hk.1.1.2.2.1, ⟨hk.1.1.2.2.2.1, hk.1.1.2.2.2.2⟩⟩⟩⟩)⟩, ⟨by (with_reducible repeat (first | apply Kd.R_alloc | apply Kd.R_drewN | apply Kd.R_drew)); exact Kd.R_mono (Kd.R_far (p := ⟨gb428, 4, none⟩) (Kd.R_far (p := ⟨gb428, 3, none⟩) (Kd.R_far (p := ⟨gb428, 2, none⟩) (Kd.R_far (p := ⟨gb428, 1, none⟩) (Kd.R_far (p := ⟨gb428, 0, none⟩) (Kd.R_far (p := ⟨gb427, 4, none⟩) (Kd.R_far (p := ⟨gb427, 3, none⟩) (Kd.R_far (p := ⟨gb427, 2, none⟩) (Kd.R_far (p := ⟨gb427, 1, none⟩) (Kd.R_far (p := ⟨gb427, 0, none⟩) (Kd.R_types (Kd.R_types HO_397002.out BK427.out (by decide)) BK428.out (by decide)) (fun _ hk => hk.1.2) (.int .i64 ((rd_T52 t389 x11_2).f0))) (fun _ hk => hk.1.2) (.int .i64 ((rd_T52 t389 x11_2).f1))) (fun _ hk => hk.1.2) (.int .i64 ((rd_T52 t389 x11_2).f2))) (fun _ hk => hk.1.2) (.int .i64 ((rd_T52 t389 x11_2).f3))) (fun _ hk => hk.1.2) (.int .i64 ((rd_T52 t389 x11_2).f4))) (fun _ hk => hk.2) (.int .i64 ((rd_T52 t398 x11_2).f0))) (fun _ hk => hk.2) (.int .i64 ((rd_T52 t398 x11_2).f1))) (fun _ hk => hk.2) (.int .i64 ((rd_T52 t398 x11_2).f2))) (fun _ hk => hk.2) (.int .i64 ((rd_T52 t398 x11_2).f3))) (fun _ hk => hk.2) (.int .i64 ((rd_T52 t398 x11_2).f4))) (fun _ hk => ⟨hk.1.1.1, ⟨hk.1.1.2.1, hk.1.1.2.2⟩⟩)⟩, ⟨by (with_reducible repeat (first | apply Kd.R_alloc | apply Kd.R_drewN | apply Kd.R_drew)); exact Kd.R_mono (Kd.R_far (p := ⟨gb428, 4, none⟩) (Kd.R_far (p := ⟨gb428, 3, none⟩) (Kd.R_far (p := ⟨gb428, 2, none⟩) (Kd.R_far (p := ⟨gb428, 1, none⟩) (Kd.R_far (p := ⟨gb428, 0, none⟩) (Kd.R_far (p := ⟨gb427, 4, none⟩) (Kd.R_far (p := ⟨gb427, 3, none⟩) (Kd.R_far (p := ⟨gb427, 2, none⟩) (Kd.R_far (p := ⟨gb427, 1, none⟩) (Kd.R_far (p := ⟨gb427, 0, none⟩) (Kd.R_mono (Kd.R_mono HO_406001.out (fun k_ hk => (⟨hk, hk.2.2.2.1⟩ : _ ∧ k_ ≠ gb427))) (fun k_ hk => (⟨hk, hk.1.2.2.2.2⟩ : _ ∧ k_ ≠ gb428))) (fun _ hk => hk.1.2) (.int .i64 ((rd_T52 t389 x11_2).f0))) (fun _ hk => hk.1.2) (.int .i64 ((rd_T52 t389 x11_2).f1))) (fun _ hk => hk.1.2) (.int .i64 ((rd_T52 t389 x11_2).f2))) (fun _ hk => hk.1.2) (.int .i64 ((rd_T52 t389 x11_2).f3))) (fun _ hk => hk.1.2) (.int .i64 ((rd_T52 t389 x11_2).f4))) (fun _ hk => hk.2) (.int .i64 ((rd_T52 t398 x11_2).f0))) (fun _ hk => hk.2) (.int .i64 ((rd_T52 t398 x11_2).f1))) (fun _ hk => hk.2) (.int .i64 ((rd_T52 t398 x11_2).f2))) (fun _ hk => hk.2) (.int .i64 ((rd_T52 t398 x11_2).f3))) (fun _ hk => hk.2) (.int .i64 ((rd_T52 t398 x11_2).f4))) (fun _ hk => ⟨hk.1.1.1, ⟨hk.1.1.2.1, ⟨hk.1.1.2.2.1, ⟨hk.1.1.2.2.2.1, hk.1.1.2.2.2.2⟩⟩⟩⟩)⟩, ⟨by (with_reducible repeat (first | apply Kd.R_alloc | apply Kd.R_drewN | apply Kd.R_drew)); exact Kd.R_mono (Kd.R_far (p := ⟨gb428, 4, none⟩) (Kd.R_far (p := ⟨gb428, 3, none⟩) (Kd.R_far (p := ⟨gb428, 2, none⟩) (Kd.R_far (p := ⟨gb428, 1, none⟩) (Kd.R_far (p := ⟨gb428, 0, none⟩) (Kd.R_far (p := ⟨gb427, 4, none⟩) (Kd.R_far (p := ⟨gb427, 3, none⟩) (Kd.R_far (p := ⟨gb427, 2, none⟩) (Kd.R_far (p := ⟨gb427, 1, none⟩) (Kd.R_far (p := ⟨gb427, 0, none⟩) (Kd.R_types (Kd.R_types HO_406002.out BK427.out (by decide)) BK428.out (by decide)) (fun _ hk => hk.1.2) (.int .i64 ((rd_T52 t389 x11_2).f0))) (fun _ hk => hk.1.2) (.int .i64 ((rd_T52 t389 x11_2).f1))) (fun _ hk => hk.1.2) (.int .i64 ((rd_T52 t389 x11_2).f2))) (fun _ hk => hk.1.2) (.int .i64 ((rd_T52 t389 x11_2).f3))) (fun _ hk => hk.1.2) (.int .i64 ((rd_T52 t389 x11_2).f4))) (fun _ hk => hk.2) (.int .i64 ((rd_T52 t398 x11_2).f0))) (fun _ hk => hk.2) (.int .i64 ((rd_T52 t398 x11_2).f1))) (fun _ hk => hk.2) (.int .i64 ((rd_T52 t398 x11_2).f2))) (fun _ hk => hk.2) (.int .i64 ((rd_T52 t398 x11_2).f3))) (fun _ hk => hk.2) (.int .i64 ((rd_T52 t398 x11_2).f4))) (fun _ hk => ⟨hk.1.1.1, ⟨hk.1.1.2.1, hk.1.1.2.2⟩⟩)⟩, ⟨by (with_reducible repeat (first | apply Kd.R_alloc | apply Kd.R_drewN | apply Kd.R_drew)); exact Kd.R_mono (Kd.R_far (p := ⟨gb428, 4, none⟩) (Kd.R_far (p := ⟨gb428, 3, none⟩) (Kd.R_far (p := ⟨gb428, 2, none⟩) (Kd.R_far (p := ⟨gb428, 1, none⟩) (Kd.R_far (p := ⟨gb428, 0, none⟩) (Kd.R_far (p := ⟨gb427, 4, none⟩) (Kd.R_far (p := ⟨gb427, 3, none⟩) (Kd.R_far (p := ⟨gb427, 2, none⟩) (Kd.R_far (p := ⟨gb427, 1, none⟩) (Kd.R_far (p := ⟨gb427, 0, none⟩) (Kd.R_mono (Kd.R_mono HO_415001.out (fun k_ hk => (⟨hk, hk.2.2.2.1⟩ : _ ∧ k_ ≠ gb427))) (fun k_ hk => (⟨hk, hk.1.2.2.2.2⟩ : _ ∧ k_ ≠ gb428))) (fun _ hk => hk.1.2) (.int .i64 ((rd_T52 t389 x11_2).f0))) (fun _ hk => hk.1.2) (.int .i64 ((rd_T52 t389 x11_2).f1))) (fun _ hk => hk.1.2) (.int .i64 ((rd_T52 t389 x11_2).f2))) (fun _ hk => hk.1.2) (.int .i64 ((rd_T52 t389 x11_2).f3))) (fun _ hk => hk.1.2) (.int .i64 ((rd_T52 t389 x11_2).f4))) (fun _ hk => hk.2) (.int .i64 ((rd_T52 t398 x11_2).f0))) (fun _ hk => hk.2) (.int .i64 ((rd_T52 t398 x11_2).f1))) (fun _ hk => hk.2) (.int .i64 ((rd_T52 t398 x11_2).f2))) (fun _ hk => hk.2) (.int .i64 ((rd_T52 t398 x11_2).f3))) (fun _ hk => hk.2) (.int .i64 ((rd_T52 t398 x11_2).f4))) (fun _ hk => ⟨hk.1.1.1, ⟨hk.1.1.2.1, ⟨hk.1.1.2.2.1, ⟨hk.1.1.2.2.2.1, hk.1.1.2.2.2.2⟩⟩⟩⟩)⟩, ⟨by (with_reducible repeat (first | apply Kd.R_alloc | apply Kd.R_drewN | apply Kd.R_drew)); exact Kd.R_mono (Kd.R_far (p := ⟨gb428, 4, none⟩) (Kd.R_far (p := ⟨gb428, 3, none⟩) (Kd.R_far (p := ⟨gb428, 2, none⟩) (Kd.R_far (p := ⟨gb428, 1, none⟩) (Kd.R_far (p := ⟨gb428, 0, none⟩) (Kd.R_far (p := ⟨gb427, 4, none⟩) (Kd.R_far (p := ⟨gb427, 3, none⟩) (Kd.R_far (p := ⟨gb427, 2, none⟩) (Kd.R_far (p := ⟨gb427, 1, none⟩) (Kd.R_far (p := ⟨gb427, 0, none⟩) (Kd.R_types (Kd.R_types HO_415002.out BK427.out (by decide)) BK428.out (by decide)) (fun _ hk => hk.1.2) (.int .i64 ((rd_T52 t389 x11_2).f0))) (fun _ hk => hk.1.2) (.int .i64 ((rd_T52 t389 x11_2).f1))) (fun _ hk => hk.1.2) (.int .i64 ((rd_T52 t389 x11_2).f2))) (fun _ hk => hk.1.2) (.int .i64 ((rd_T52 t389 x11_2).f3))) (fun _ hk => hk.1.2) (.int .i64 ((rd_T52 t389 x11_2).f4))) (fun _ hk => hk.2) (.int .i64 ((rd_T52 t398 x11_2).f0))) (fun _ hk => hk.2) (.int .i64 ((rd_T52 t398 x11_2).f1))) (fun _ hk => hk.2) (.int .i64 ((rd_T52 t398 x11_2).f2))) (fun _ hk => hk.2) (.int .i64 ((rd_T52 t398 x11_2).f3))) (fun _ hk => hk.2) (.int .i64 ((rd_T52 t398 x11_2).f4))) (fun _ hk => ⟨hk.1.1.1, ⟨hk.1.1.2.1, hk.1.1.2.2⟩⟩)⟩, ⟨by (with_reducible repeat (first | apply Kd.R_alloc | apply Kd.R_drewN | apply Kd.R_drew)); exact Kd.R_mono (Kd.R_far (p := ⟨gb428, 4, none⟩) (Kd.R_far (p := ⟨gb428, 3, none⟩) (Kd.R_far (p := ⟨gb428, 2, none⟩) (Kd.R_far (p := ⟨gb428, 1, none⟩) (Kd.R_far (p := ⟨gb428, 0, none⟩) (Kd.R_far (p := ⟨gb427, 4, none⟩) (Kd.R_far (p := ⟨gb427, 3, none⟩) (Kd.R_far (p := ⟨gb427, 2, none⟩) (Kd.R_far (p := ⟨gb427, 1, none⟩) (Kd.R_far (p := ⟨gb427, 0, none⟩) (Kd.R_mono (Kd.R_mono HO_425001.out (fun k_ hk => (⟨hk, hk.2.2.2.1⟩ : _ ∧ k_ ≠ gb427))) (fun k_ hk => (⟨hk, hk.1.2.2.2.2⟩ : _ ∧ k_ ≠ gb428))) (fun _ hk => hk.1.2) (.int .i64 ((rd_T52 t389 x11_2).f0))) (fun _ hk => hk.1.2) (.int .i64 ((rd_T52 t389 x11_2).f1))) (fun _ hk => hk.1.2) (.int .i64 ((rd_T52 t389 x11_2).f2))) (fun _ hk => hk.1.2) (.int .i64 ((rd_T52 t389 x11_2).f3))) (fun _ hk => hk.1.2) (.int .i64 ((rd_T52 t389 x11_2).f4))) (fun _ hk => hk.2) (.int .i64 ((rd_T52 t398 x11_2).f0))) (fun _ hk => hk.2) (.int .i64 ((rd_T52 t398 x11_2).f1))) (fun _ hk => hk.2) (.int .i64 ((rd_T52 t398 x11_2).f2))) (fun _ hk => hk.2) (.int .i64 ((rd_T52 t398 x11_2).f3))) (fun _ hk => hk.2) (.int .i64 ((rd_T52 t398 x11_2).f4))) (fun _ hk => ⟨hk.1.1.1, ⟨hk.1.1.2.1, ⟨hk.1.1.2.2.1, ⟨hk.1.1.2.2.2.1, hk.1.1.2.2.2.2⟩⟩⟩⟩)⟩, ⟨by (with_reducible repeat (first | apply Kd.R_alloc | apply Kd.R_drewN | apply Kd.R_drew)); exact Kd.R_mono (Kd.R_far (p := ⟨gb428, 4, none⟩) (Kd.R_far (p := ⟨gb428, 3, none⟩) (Kd.R_far (p := ⟨gb428, 2, none⟩) (Kd.R_far (p := ⟨gb428, 1, none⟩) (Kd.R_far (p := ⟨gb428, 0, none⟩) (Kd.R_far (p := ⟨gb427, 4, none⟩) (Kd.R_far (p := ⟨gb427, 3, none⟩) (Kd.R_far (p := ⟨gb427, 2, none⟩) (Kd.R_far (p := ⟨gb427, 1, none⟩) (Kd.R_far (p := ⟨gb427, 0, none⟩) (Kd.R_types (Kd.R_types HO_425002.out BK427.out (by decide)) BK428.out (by decide)) (fun _ hk => hk.1.2) (.int .i64 ((rd_T52 t389 x11_2).f0))) (fun _ hk => hk.1.2) (.int .i64 ((rd_T52 t389 x11_2).f1))) (fun _ hk => hk.1.2) (.int .i64 ((rd_T52 t389 x11_2).f2))) (fun _ hk => hk.1.2) (.int .i64 ((rd_T52 t389 x11_2).f3))) (fun _ hk => hk.1.2) (.int .i64 ((rd_T52 t389 x11_2).f4))) (fun _ hk => hk.2) (.int .i64 ((rd_T52 t398 x11_2).f0))) (fun _ hk => hk.2) (.int .i64 ((rd_T52 t398 x11_2).f1))) (fun _ hk => hk.2) (.int .i64 ((rd_T52 t398 x11_2).f2))) (fun _ hk => hk.2) (.int .i64 ((rd_T52 t398 x11_2).f3))) (fun _ hk => hk.2) (.int .i64 ((rd_T52 t398 x11_2).f4))) (fun _ hk => ⟨hk.1.1.1, ⟨hk.1.1.2.1, hk.1.1.2.2⟩⟩)⟩, ⟨by refine zP16 ?_; refine blk_far ?_ NB396_428.out _; refine zP16 ?_; refine blk_far ?_ NB396_428.out _; refine zP16 ?_; refine blk_far ?_ NB396_428.out _; refine zP16 ?_; refine blk_far ?_ NB396_428.out _; refine zP16 ?_; refine blk_far ?_ NB396_428.out _; refine zP16 ?_; refine blk_far ?_ NB396_427.out _; refine zP16 ?_; refine blk_far ?_ NB396_427.out _; refine zP16 ?_; refine blk_far ?_ NB396_427.out _; refine zP16 ?_; refine blk_far ?_ NB396_427.out _; refine zP16 ?_; refine blk_far ?_ NB396_427.out _; refine zP16 ?_; exact BK396.out⟩, ⟨by refine zP16 ?_; refine blk_far ?_ NB405_428.out _; refine zP16 ?_; refine blk_far ?_ NB405_428.out _; refine zP16 ?_; refine blk_far ?_ NB405_428.out _; refine zP16 ?_; refine blk_far ?_ NB405_428.out _; refine zP16 ?_; refine blk_far ?_ NB405_428.out _; refine zP16 ?_; refine blk_far ?_ NB405_427.out _; refine zP16 ?_; refine blk_far ?_ NB405_427.out _; refine zP16 ?_; refine blk_far ?_ NB405_427.out _; refine zP16 ?_; refine blk_far ?_ NB405_427.out _; refine zP16 ?_; refine blk_far ?_ NB405_427.out _; refine zP16 ?_; exact BK405.out⟩, ⟨by refine zP16 ?_; refine blk_far ?_ NB414_428.out _; refine zP16 ?_; refine blk_far ?_ NB414_428.out _; refine zP16 ?_; refine blk_far ?_ NB414_428.out _; refine zP16 ?_; refine blk_far ?_ NB414_428.out _; refine zP16 ?_; refine blk_far ?_ NB414_428.out _; refine zP16 ?_; refine blk_far ?_ NB414_427.out _; refine zP16 ?_; refine blk_far ?_ NB414_427.out _; refine zP16 ?_; refine blk_far ?_ NB414_427.out _; refine zP16 ?_; refine blk_far ?_ NB414_427.out _; refine zP16 ?_; refine blk_far ?_ NB414_427.out _; refine zP16 ?_; exact BK414.out⟩, ⟨by refine zP16 ?_; refine blk_far ?_ NB424_428.out _; refine zP16 ?_; refine blk_far ?_ NB424_428.out _; refine zP16 ?_; refine blk_far ?_ NB424_428.out _; refine zP16 ?_; refine blk_far ?_ NB424_428.out _; refine zP16 ?_; refine blk_far ?_ NB424_428.out _; refine zP16 ?_; refine blk_far ?_ NB424_427.out _; refine zP16 ?_; refine blk_far ?_ NB424_427.out _; refine zP16 ?_; refine blk_far ?_ NB424_427.out _; refine zP16 ?_; refine blk_far ?_ NB424_427.out _; refine zP16 ?_; refine blk_far ?_ NB424_427.out _; refine zP16 ?_; exact BK424.out⟩, ⟨by refine zP16 ?_; refine blk_far ?_ NB427_428.out _; refine zP16 ?_; refine blk_far ?_ NB427_428.out _; refine zP16 ?_; refine blk_far ?_ NB427_428.out _; refine zP16 ?_; refine blk_far ?_ NB427_428.out _; refine zP16 ?_; refine blk_far ?_ NB427_428.out _; refine zP16 ?_; refine blk_put (cs := #[.int .i64 ((rd_T52 t389 x11_2).f0), .int .i64 ((rd_T52 t389 x11_2).f1), .int .i64 ((rd_T52 t389 x11_2).f2), .int .i64 ((rd_T52 t389 x11_2).f3), .int .i64 0]) ?_ 4 _ rfl; refine zP16 ?_; refine blk_put (cs := #[.int .i64 ((rd_T52 t389 x11_2).f0), .int .i64 ((rd_T52 t389 x11_2).f1), .int .i64 ((rd_T52 t389 x11_2).f2), .int .i64 0, .int .i64 0]) ?_ 3 _ rfl; refine zP16 ?_; refine blk_put (cs := #[.int .i64 ((rd_T52 t389 x11_2).f0), .int .i64 ((rd_T52 t389 x11_2).f1), .int .i64 0, .int .i64 0, .int .i64 0]) ?_ 2 _ rfl; refine zP16 ?_; refine blk_put (cs := #[.int .i64 ((rd_T52 t389 x11_2).f0), .int .i64 0, .int .i64 0, .int .i64 0, .int .i64 0]) ?_ 1 _ rfl; refine zP16 ?_; refine blk_put (cs := #[.int .i64 0, .int .i64 0, .int .i64 0, .int .i64 0, .int .i64 0]) ?_ 0 _ rfl; refine zP16 ?_; exact BK427.out⟩, ⟨by refine zP16 ?_; refine blk_put (cs := #[.int .i64 ((rd_T52 t398 x11_2).f0), .int .i64 ((rd_T52 t398 x11_2).f1), .int .i64 ((rd_T52 t398 x11_2).f2), .int .i64 ((rd_T52 t398 x11_2).f3), .int .i64 0]) ?_ 4 _ rfl; refine zP16 ?_; refine blk_put (cs := #[.int .i64 ((rd_T52 t398 x11_2).f0), .int .i64 ((rd_T52 t398 x11_2).f1), .int .i64 ((rd_T52 t398 x11_2).f2), .int .i64 0, .int .i64 0]) ?_ 3 _ rfl; refine zP16 ?_; refine blk_put (cs := #[.int .i64 ((rd_T52 t398 x11_2).f0), .int .i64 ((rd_T52 t398 x11_2).f1), .int .i64 0, .int .i64 0, .int .i64 0]) ?_ 2 _ rfl; refine zP16 ?_; refine blk_put (cs := #[.int .i64 ((rd_T52 t398 x11_2).f0), .int .i64 0, .int .i64 0, .int .i64 0, .int .i64 0]) ?_ 1 _ rfl; refine zP16 ?_; refine blk_put (cs := #[.int .i64 0, .int .i64 0, .int .i64 0, .int .i64 0, .int .i64 0]) ?_ 0 _ rfl; refine zP16 ?_; refine blk_far ?_ NB428_427.out _; refine zP16 ?_; refine blk_far ?_ NB428_427.out _; refine zP16 ?_; refine blk_far ?_ NB428_427.out _; refine zP16 ?_; refine blk_far ?_ NB428_427.out _; refine zP16 ?_; refine blk_far ?_ NB428_427.out _; refine zP16 ?_; exact BK428.out⟩, ⟨zB16_6⟩⟩
     case rest =>
      clear HC52
      try clear p2
      try clear c7
      try clear c8
      try clear c9
      try clear c71
      try clear c71b0
      try clear c71b1
      try clear c72
      try clear c73
      try clear c74
      try clear c75
      try clear c76
      try clear c78
      try clear c78b0
      try clear c78b1
      try clear c79
      try clear c80
      try clear c81
      try clear c82
      try clear c83
      try clear c85
      try clear c86
      try clear c87
      try clear c88
      try clear c89
      try clear c91
      try clear c92
      try clear c93
      try clear c94
      try clear hcz77_0
      try clear hcz77_1
      try clear hcz77_2
      try clear hcz77_3
      try clear hcz77_4
      try clear hcz84_0
      try clear hcz84_1
      try clear hcz84_2
      try clear hcz84_3
      try clear hcz84_4
      try clear hcz90_0
      try clear hcz90_1
      try clear hcz90_2
      try clear hcz90_3
      try clear hcz90_4
      try clear hcz95_0
      try clear hcz95_1
      try clear hcz95_2
      try clear hcz95_3
      try clear hcz95_4
      try clear hfz77_0
      try clear hfz77_1
      try clear hfz77_2
      try clear hfz77_3
      try clear hfz77_4
      try clear hfz84_0
      try clear hfz84_1
      try clear hfz84_2
      try clear hfz84_3
      try clear hfz84_4
      try clear hfz90_0
      try clear hfz90_1
      try clear hfz90_2
      try clear hfz90_3
      try clear hfz90_4
      try clear hfz95_0
      try clear hfz95_1
      try clear hfz95_2
      try clear hfz95_3
      try clear hfz95_4
      obtain ⟨kq, x83_51, rfl, HA, HJ51, HO_397001, HO_397002, HO_406001, HO_406002, HO_415001, HO_415002, HO_425001, HO_425002, BK396, BK405, BK414, BK424, BK427, BK428, HB⟩ := hcut
      cases kq with
      | zero => exact absurd HA.out (by simp [laws_FnMoved.j2])
      | succ kj51 =>
       have H := HA.out
       clear HA
       simp only [laws_FnMoved.j2] at H
       by_cases c96 : x83_51 = true
       ·subst c96
        have H1 : (some false) = some r := by rw [if_pos rfl] at H; exact H
        clear H
        have H := H1
        clear H1
        obtain rfl := Option.some.inj H
        go_wp2
        go_ret
        exact ⟨zE16, zB16_6⟩
       replace c96 := Bool.eq_false_iff.mpr c96
       subst c96
       have H1 : (laws_FnMoved.l0 kj51 t423 (wrap64 (x11_2 + 1)) t388 t389 t392 t397 t398 t401 t416 t417 t420) = some r := by rw [if_neg (show ¬ (false = true) by decide)] at H; exact H
       clear H
       have H := H1
       clear H1
       have H' := Aside0.mk H
       clear H
       go_wp2
       go_roundg kj51
       case measure => have := HJ6.out; have := HK2.out; have := HJ51.out; omega
       case rel => exact ⟨(wrap64 (x11_2 + 1)), (by first | rfl | (simp; done) | (simp [*]; done)), H', ⟨by have := HJ6.out; have := HK2.out; have := HJ51.out; omega⟩, ⟨by (with_reducible repeat (first | apply Kd.R_alloc | apply Kd.R_drewN | apply Kd.R_drew)); exact Kd.R_mono HO_397001.out (fun _ hk => ⟨hk.1, ⟨hk.2.1, hk.2.2.1⟩⟩)⟩, ⟨zR16 HO_397002.out⟩, ⟨by (with_reducible repeat (first | apply Kd.R_alloc | apply Kd.R_drewN | apply Kd.R_drew)); exact Kd.R_mono HO_406001.out (fun _ hk => ⟨hk.1, ⟨hk.2.1, hk.2.2.1⟩⟩)⟩, ⟨zR16 HO_406002.out⟩, ⟨by (with_reducible repeat (first | apply Kd.R_alloc | apply Kd.R_drewN | apply Kd.R_drew)); exact Kd.R_mono HO_415001.out (fun _ hk => ⟨hk.1, ⟨hk.2.1, hk.2.2.1⟩⟩)⟩, ⟨zR16 HO_415002.out⟩, ⟨by (with_reducible repeat (first | apply Kd.R_alloc | apply Kd.R_drewN | apply Kd.R_drew)); exact Kd.R_mono HO_425001.out (fun _ hk => ⟨hk.1, ⟨hk.2.1, hk.2.2.1⟩⟩)⟩, ⟨zR16 HO_425002.out⟩, ⟨zK16 BK396.out⟩, ⟨zK16 BK405.out⟩, ⟨zK16 BK414.out⟩, ⟨zK16 BK424.out⟩, ⟨zB16_6⟩⟩

/-- THE ONE PURE STATEMENT of laws_FnMoved: yours. -/
def laws_FnMoved.Pure : Prop := ∀ (l0 : List Int), l0.length ≤ maxLen → l0.length * 1 ≤ 140737488351232 → (∀ x ∈ l0, (Lit.int .u8 x).wf = true) → ∃ k, laws_FnMoved.f k l0 = some true
theorem laws_FnMoved.walk (P : laws_FnMoved.Pure) (a0 : Option Addr) (len0 cap0 : Nat) (z0 : List Int) (w : World) (w0 : (a0 = none ∧ len0 = 0 ∧ cap0 = 0 ∧ z0 = []) ∨ ∃ x, a0 = some x ∧ len0 ≤ cap0 ∧ cap0 ≤ maxLen ∧ z0.length = cap0 ∧ (∀ i, i < z0.length → w.cell? (x.add i) = some (.int .u8 (z0.getD i 0))) ∧ ∀ n ∈ z0, (Lit.int .u8 n).wf = true) (y0 : len0 * 1 ≤ 140737488351232) :
  Calls Try.prog 11 #[.slice a0 len0 cap0] w fun e w' => e = .returned (.bool true) ∧ Below w.heap.size w w' := by
 obtain ⟨l0, rfl, hr0, hm0, hw0, hc0⟩ := ReadsInt.ofRowC w0
 obtain ⟨k, h⟩ := P l0 hm0 y0 hw0
 refine (laws_FnMoved.calls k _ _ l0 true w (Kd.C_of_reads (d := (0 : Int)) (h1 := fun _ => rfl) hr0) hc0 h).mono ?_
 rintro e w' ⟨rfl, hd⟩
 exact ⟨rfl, hd⟩

end Go.Proofs.Ytnekcbajadnldaa.PFnMoved
