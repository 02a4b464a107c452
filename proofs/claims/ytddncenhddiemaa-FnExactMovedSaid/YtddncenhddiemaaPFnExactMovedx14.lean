-- made by wip/tools/myprint.py out of the seat's translation
import Derived.Test.YtddncenhddiemaaPFnExactMovedx0
import Derived.Test.YtddncenhddiemaaPFnExactMovedx2
import Derived.Test.YtddncenhddiemaaPFnExactMovedx4
import Derived.Test.YtddncenhddiemaaPFnExactMovedx8
import Derived.Test.YtddncenhddiemaaPFnExactMovedx12
import Derived.Test.YtddncenhddiemaaPFnExactMovedx13
namespace Go.Proofs.Ytddncenhddiemaa.PFnExactMoved
open Go.RowKit Go.Proofs.YtddncenhddiemaaW.PrintWords Go.Proofs.YtddncenhddiemaaW.PrintLast Go.Proofs.YtddncenhddiemaaW.PrintMore
attribute [local go_sem] max2_int min2_int max_two min_two max_three min_three max_four min_four   -- for this text's walks alone
set_option linter.unusedVariables false
set_option linter.unusedSimpArgs false
theorem zc14_3 {w : World} {g : Nat} {a0 a1 a2 : Value} {t : TypeId} (h : w.heap[g]? = some (.cells #[a0, a1, a2] t (0, 0))) : w.cell? ⟨g, 0, none⟩ = some a0 ∧ w.cell? ⟨g, 1, none⟩ = some a1 ∧ w.cell? ⟨g, 2, none⟩ = some a2 ∧ w.frozen? ⟨g, 0, none⟩ = false ∧ w.frozen? ⟨g, 1, none⟩ = false ∧ w.frozen? ⟨g, 2, none⟩ = false := ⟨(blk_cell h 0).trans rfl, (blk_cell h 1).trans rfl, (blk_cell h 2).trans rfl, blk_frozen h 0, blk_frozen h 1, blk_frozen h 2⟩
theorem zR14 {p q : Prop} (x : q) (h : q → p := by intro h; (with_reducible repeat (first | apply Kd.R_alloc | apply Kd.R_drewN | apply Kd.R_drew)); exact h) : p := h x
theorem zK14 {p q : Prop} (x : q) (h : q → p := by intro h; (with_reducible repeat (first | refine blk_drewN ?_ _ | refine blk_drew ?_ | refine blk_alloc ?_ _)); exact h) : p := h x
theorem zT14 {p : Prop} (h : p := by (try simp only [List.map_toArray, List.map_cons, List.map_nil]); first | done | rfl | (simp only [List.length_drop, List.length_take]; rfl)) : p := h
theorem zC14 {p q : Prop} (x : q) (h : q → p := by intro h; repeat (first | exact h | (with_reducible refine Kd.C_alloc ?_ _) | (with_reducible refine Kd.C_drewN ?_ _) | (with_reducible refine Kd.C_drew ?_))) : p := h x
theorem zb14 {W w w1 : World} {g : Nat} {o : Obj} (x : W.heap[g]? = some o) (hb : Below w.heap.size w w1) (h : W.heap[g]? = some o → w.heap[g]? = some o := by intro h; (with_reducible repeat (first | refine blk_drewN ?_ _ | refine blk_drew ?_ | refine blk_alloc ?_ _)); exact h) : w1.heap[g]? = some o := blk_below (h x) hb
theorem zn14 {W w : World} {g g' : Nat} {o : Obj} (x : W.heap[g]? = some o) (hg : g' = w.heap.size) (h : W.heap[g]? = some o → w.heap[g]? = some o := by intro h; (with_reducible repeat (first | refine blk_drewN ?_ _ | refine blk_drew ?_ | refine blk_alloc ?_ _)); exact h) : g ≠ g' := by rw [hg]; exact Nat.ne_of_lt (blk_lt (h x))
theorem zm14 {W w : World} {g g' : Nat} {o : Obj} (x : W.heap[g]? = some o) (hg : g' = w.heap.size) (h : W.heap[g]? = some o → w.heap[g]? = some o := by intro h; (with_reducible repeat (first | refine blk_drewN ?_ _ | refine blk_drew ?_ | refine blk_alloc ?_ _)); exact h) : g' ≠ g := by rw [hg]; exact Nat.ne_of_gt (blk_lt (h x))
theorem zP14 {p q : Prop} (x : q) (h : q → p := by intro h; (with_reducible repeat (first | refine blk_drewN ?_ _ | refine blk_drew ?_ | refine blk_alloc ?_ _)); exact h) : p := h x
theorem zV14 {a b : Act} (h : a = b := by simp only [Act.put, List.setIfInBounds_toArray, List.set_cons_zero, List.set_cons_succ, i64_w, i32_w]; rfl) : a = b := h
theorem zE14 {p : Prop} (h : p := by first | rfl | (simp [errW_none, errW_some] <;> rfl) | (simp [*, errW_none, errW_some] <;> rfl)) : p := h
theorem zB14_0 {p : Prop} (h : p := by repeat (first | (with_reducible first | exact HB.out | apply below_alloc | apply pw_below_drewN | apply below_drew1) | exact HB.out)) : p := h
theorem zB14_1 {p : Prop} (h : p := by repeat (first | (with_reducible first | exact HB.out | apply below_alloc | apply pw_below_drewN | apply below_drew1 | refine below_set ?_ GE283.out) | exact HB.out)) : p := h
theorem zB14_2 {p : Prop} (h : p := by repeat (first | (with_reducible first | exact HB.out | apply below_alloc | apply pw_below_drewN | apply below_drew1 | refine below_set ?_ GE283.out | refine below_set ?_ GE300.out) | exact HB.out)) : p := h
theorem zB14_3 {p : Prop} (h : p := by repeat (first | (with_reducible first | exact HB.out | apply below_alloc | apply pw_below_drewN | apply below_drew1 | refine below_set ?_ GE283.out | refine below_set ?_ GE300.out | refine below_set ?_ GE308.out) | exact HB.out)) : p := h
theorem zB14_4 {p : Prop} (h : p := by repeat (first | (with_reducible first | exact HB.out | apply below_alloc | apply pw_below_drewN | apply below_drew1 | refine below_set ?_ GE283.out | refine below_set ?_ GE300.out | refine below_set ?_ GE308.out | refine below_set ?_ GE317.out) | exact HB.out)) : p := h
theorem zB14_5 {p : Prop} (h : p := by repeat (first | (with_reducible first | exact HB.out | apply below_alloc | apply pw_below_drewN | apply below_drew1 | refine below_set ?_ GE283.out | refine below_set ?_ GE300.out | refine below_set ?_ GE308.out | refine below_set ?_ GE317.out | refine below_set ?_ GE350.out) | exact HB.out)) : p := h

/-! ### laws_FnExactMoved: function 12 -/
mutual
def laws_FnExactMoved.j0 : Nat → Int → Bool → Bool → Bool → ByteArray → List (S162) → List (S159) → ByteArray → List (S54) → List (S87) → ByteArray → List (S54) → List (S87) → ByteArray → List (S54) → List (S87) → Option (Bool)
 | 0, _, _, _, _, _, _, _, _, _, _, _, _, _, _, _, _ => none
 | k + 1, x1, x7, x10, x44, x284000, x284001, x284002, x301000, x301001, x301002, x309000, x309001, x309002, x318000, x318001, x318002 => if x44 = true then (some false) else ((laws_toPart.f k x284000 x284001 x284002).bind fun bt319 => ((laws_eqPart.f k x309000 x309001 x309002 bt319.1 bt319.2.1 bt319.2.2).bind fun t326 => (if t326 = true then ((laws_markPart.f k x309000 x309001 x309002 1).bind fun bt327 => (if bt327.1 < 0 then (laws_FnExactMoved.j1 k x1 x7 true x284000 x284001 x284002 x301000 x301001 x301002 x318000 x318001 x318002) else ((laws_eqPart.f k x318000 x318001 x318002 x301000 x301001 x301002).bind fun t330 => (if t330 = true then (laws_FnExactMoved.j1 k x1 x7 (x10 != x7) x284000 x284001 x284002 x301000 x301001 x301002 x318000 x318001 x318002) else (laws_FnExactMoved.j1 k x1 x7 true x284000 x284001 x284002 x301000 x301001 x301002 x318000 x318001 x318002))))) else (some false))))
def laws_FnExactMoved.j1 : Nat → Int → Bool → Bool → ByteArray → List (S162) → List (S159) → ByteArray → List (S54) → List (S87) → ByteArray → List (S54) → List (S87) → Option (Bool)
 | 0, _, _, _, _, _, _, _, _, _, _, _, _ => none
 | k + 1, x1, x7, x65, x284000, x284001, x284002, x301000, x301001, x301002, x318000, x318001, x318002 => if x65 = true then (some false) else ((laws_markPart.f k x318000 x318001 x318002 1).bind fun bt331 => ((laws_heldPart.f k x318000 bt331.2.1 bt331.2.2 1).bind fun t334 => (if t334 < 0 then (some false) else (if t334 = bt331.1 then ((laws_toPart.f k x284000 x284001 x284002).bind fun bt335 => ((impl_Moved.f k bt335.1 bt335.2.1 bt335.2.2 x1).bind fun bt342 => ((laws_eqPart.f k bt342.1 bt342.2.1 bt342.2.2.1 x301000 x301001 x301002).bind fun t351 => (if t351 = true then (laws_FnExactMoved.j2 k bt331.1 (bt342.2.2.2 != x7) x318000 bt331.2.1 bt331.2.2) else (laws_FnExactMoved.j2 k bt331.1 true x318000 bt331.2.1 bt331.2.2))))) else (some false)))))
def laws_FnExactMoved.j2 : Nat → Int → Bool → ByteArray → List (S54) → List (S87) → Option (Bool)
 | 0, _, _, _, _, _ => none
 | k + 1, x12, x92, x318000, x318001, x318002 => if x92 = true then (some false) else ((laws_heldPart.f k x318000 x318001 x318002 1).bind fun t352 => (if t352 < 0 then (some false) else (if t352 = x12 then (some true) else (some false))))
end
def laws_FnExactMoved.f (k : Nat) (a0_0 : ByteArray) (l0_1 : List (S162)) (l0_2 : List (S159)) (a1 : Int) : Option (Bool) := (laws_szPart.f k a0_0 l0_1 l0_2 1048576).bind fun t284 => (if t284 < 0 then (some true) else ((laws_toPart.f k a0_0 l0_1 l0_2).bind fun bt285 => ((spec_Moved.f k bt285.1 bt285.2.1 bt285.2.2 a1).bind fun bt292 => ((laws_toPart.f k a0_0 l0_1 l0_2).bind fun bt301 => ((impl_Moved.f k bt301.1 bt301.2.1 bt301.2.2 a1).bind fun bt309 => ((laws_eqPart.f k bt309.1 bt309.2.1 bt309.2.2.1 bt292.1 bt292.2.1 bt292.2.2.1).bind fun t318 => (if t318 = true then (laws_FnExactMoved.j0 k a1 bt292.2.2.2 bt309.2.2.2 (bt309.2.2.2 != bt292.2.2.2) a0_0 l0_1 l0_2 bt292.1 bt292.2.1 bt292.2.2.1 bt301.1 bt301.2.1 bt301.2.2 bt309.1 bt309.2.1 bt309.2.2.1) else (laws_FnExactMoved.j0 k a1 bt292.2.2.2 bt309.2.2.2 true a0_0 l0_1 l0_2 bt292.1 bt292.2.1 bt292.2.2.1 bt301.1 bt301.2.1 bt301.2.2 bt309.1 bt309.2.1 bt309.2.2.1))))))))
theorem laws_FnExactMoved.mono_l : ∀ k, (∀ y0 y1 y2 y3 y4 y5 y6 y7 y8 y9 y10 y11 y12 y13 y14 y15, LeO (laws_FnExactMoved.j0 k y0 y1 y2 y3 y4 y5 y6 y7 y8 y9 y10 y11 y12 y13 y14 y15) (laws_FnExactMoved.j0 (k + 1) y0 y1 y2 y3 y4 y5 y6 y7 y8 y9 y10 y11 y12 y13 y14 y15)) ∧ (∀ y0 y1 y2 y3 y4 y5 y6 y7 y8 y9 y10 y11, LeO (laws_FnExactMoved.j1 k y0 y1 y2 y3 y4 y5 y6 y7 y8 y9 y10 y11) (laws_FnExactMoved.j1 (k + 1) y0 y1 y2 y3 y4 y5 y6 y7 y8 y9 y10 y11)) ∧ (∀ y0 y1 y2 y3 y4, LeO (laws_FnExactMoved.j2 k y0 y1 y2 y3 y4) (laws_FnExactMoved.j2 (k + 1) y0 y1 y2 y3 y4))
 | 0 => ⟨fun _ _ _ _ _ _ _ _ _ _ _ _ _ _ _ _ r h => by simp [laws_FnExactMoved.j0] at h, fun _ _ _ _ _ _ _ _ _ _ _ _ r h => by simp [laws_FnExactMoved.j1] at h, fun _ _ _ _ _ r h => by simp [laws_FnExactMoved.j2] at h⟩
 | k + 1 => by
  obtain ⟨ih0, ih1, ih2⟩ := laws_FnExactMoved.mono_l k
  refine ⟨?_, ?_, ?_⟩
  ·intro y0 y1 y2 y3 y4 y5 y6 y7 y8 y9 y10 y11 y12 y13 y14 y15
   unfold laws_FnExactMoved.j0
   repeat' first
   | (with_reducible exact ih0 _ _ _ _ _ _ _ _ _ _ _ _ _ _ _ _)
   | (with_reducible exact ih1 _ _ _ _ _ _ _ _ _ _ _ _)
   | (with_reducible exact ih2 _ _ _ _ _)
   | (with_reducible exact impl_Moved.mono _ _ _ _ _)
   | (with_reducible exact laws_eqPart.mono _ _ _ _ _ _ _)
   | (with_reducible exact laws_heldPart.mono _ _ _ _ _)
   | (with_reducible exact laws_markPart.mono _ _ _ _ _)
   | (with_reducible exact laws_szPart.mono _ _ _ _ _)
   | (with_reducible exact laws_toPart.mono _ _ _ _)
   | (with_reducible exact spec_Moved.mono _ _ _ _ _)
   | (with_reducible exact LeO.refl _)
   | (with_reducible exact LeO.none _)
   | (with_reducible refine LeO.ite ?_ ?_)
   | (with_reducible refine LeO.bind ?_ (fun _ => ?_))
   | exact ih0 _ _ _ _ _ _ _ _ _ _ _ _ _ _ _ _
   | exact ih1 _ _ _ _ _ _ _ _ _ _ _ _
   | exact ih2 _ _ _ _ _
   | exact impl_Moved.mono _ _ _ _ _
   | exact laws_eqPart.mono _ _ _ _ _ _ _
   | exact laws_heldPart.mono _ _ _ _ _
   | exact laws_markPart.mono _ _ _ _ _
   | exact laws_szPart.mono _ _ _ _ _
   | exact laws_toPart.mono _ _ _ _
   | exact spec_Moved.mono _ _ _ _ _
   | exact LeO.none _
   | refine LeO.ite ?_ ?_
   | refine LeO.bind ?_ (fun _ => ?_)
  ·intro y0 y1 y2 y3 y4 y5 y6 y7 y8 y9 y10 y11
   unfold laws_FnExactMoved.j1
   repeat' first
   | (with_reducible exact ih0 _ _ _ _ _ _ _ _ _ _ _ _ _ _ _ _)
   | (with_reducible exact ih1 _ _ _ _ _ _ _ _ _ _ _ _)
   | (with_reducible exact ih2 _ _ _ _ _)
   | (with_reducible exact impl_Moved.mono _ _ _ _ _)
   | (with_reducible exact laws_eqPart.mono _ _ _ _ _ _ _)
   | (with_reducible exact laws_heldPart.mono _ _ _ _ _)
   | (with_reducible exact laws_markPart.mono _ _ _ _ _)
   | (with_reducible exact laws_szPart.mono _ _ _ _ _)
   | (with_reducible exact laws_toPart.mono _ _ _ _)
   | (with_reducible exact spec_Moved.mono _ _ _ _ _)
   | (with_reducible exact LeO.refl _)
   | (with_reducible exact LeO.none _)
   | (with_reducible refine LeO.ite ?_ ?_)
   | (with_reducible refine LeO.bind ?_ (fun _ => ?_))
   | exact ih0 _ _ _ _ _ _ _ _ _ _ _ _ _ _ _ _
   | exact ih1 _ _ _ _ _ _ _ _ _ _ _ _
   | exact ih2 _ _ _ _ _
   | exact impl_Moved.mono _ _ _ _ _
   | exact laws_eqPart.mono _ _ _ _ _ _ _
   | exact laws_heldPart.mono _ _ _ _ _
   | exact laws_markPart.mono _ _ _ _ _
   | exact laws_szPart.mono _ _ _ _ _
   | exact laws_toPart.mono _ _ _ _
   | exact spec_Moved.mono _ _ _ _ _
   | exact LeO.none _
   | refine LeO.ite ?_ ?_
   | refine LeO.bind ?_ (fun _ => ?_)
  ·intro y0 y1 y2 y3 y4
   unfold laws_FnExactMoved.j2
   repeat' first
   | (with_reducible exact ih0 _ _ _ _ _ _ _ _ _ _ _ _ _ _ _ _)
   | (with_reducible exact ih1 _ _ _ _ _ _ _ _ _ _ _ _)
   | (with_reducible exact ih2 _ _ _ _ _)
   | (with_reducible exact impl_Moved.mono _ _ _ _ _)
   | (with_reducible exact laws_eqPart.mono _ _ _ _ _ _ _)
   | (with_reducible exact laws_heldPart.mono _ _ _ _ _)
   | (with_reducible exact laws_markPart.mono _ _ _ _ _)
   | (with_reducible exact laws_szPart.mono _ _ _ _ _)
   | (with_reducible exact laws_toPart.mono _ _ _ _)
   | (with_reducible exact spec_Moved.mono _ _ _ _ _)
   | (with_reducible exact LeO.refl _)
   | (with_reducible exact LeO.none _)
   | (with_reducible refine LeO.ite ?_ ?_)
   | (with_reducible refine LeO.bind ?_ (fun _ => ?_))
   | exact ih0 _ _ _ _ _ _ _ _ _ _ _ _ _ _ _ _
   | exact ih1 _ _ _ _ _ _ _ _ _ _ _ _
   | exact ih2 _ _ _ _ _
   | exact impl_Moved.mono _ _ _ _ _
   | exact laws_eqPart.mono _ _ _ _ _ _ _
   | exact laws_heldPart.mono _ _ _ _ _
   | exact laws_markPart.mono _ _ _ _ _
   | exact laws_szPart.mono _ _ _ _ _
   | exact laws_toPart.mono _ _ _ _
   | exact spec_Moved.mono _ _ _ _ _
   | exact LeO.none _
   | refine LeO.ite ?_ ?_
   | refine LeO.bind ?_ (fun _ => ?_)
theorem laws_FnExactMoved.mono : ∀ a0 a1 a2 a3 k, LeO (laws_FnExactMoved.f k a0 a1 a2 a3) (laws_FnExactMoved.f (k + 1) a0 a1 a2 a3) := by
 intro a0 a1 a2 a3 k
 obtain ⟨ih0, ih1, ih2⟩ := laws_FnExactMoved.mono_l k
 unfold laws_FnExactMoved.f
 repeat' first
   | (with_reducible exact ih0 _ _ _ _ _ _ _ _ _ _ _ _ _ _ _ _)
   | (with_reducible exact ih1 _ _ _ _ _ _ _ _ _ _ _ _)
   | (with_reducible exact ih2 _ _ _ _ _)
   | (with_reducible exact impl_Moved.mono _ _ _ _ _)
   | (with_reducible exact laws_eqPart.mono _ _ _ _ _ _ _)
   | (with_reducible exact laws_heldPart.mono _ _ _ _ _)
   | (with_reducible exact laws_markPart.mono _ _ _ _ _)
   | (with_reducible exact laws_szPart.mono _ _ _ _ _)
   | (with_reducible exact laws_toPart.mono _ _ _ _)
   | (with_reducible exact spec_Moved.mono _ _ _ _ _)
   | (with_reducible exact LeO.refl _)
   | (with_reducible exact LeO.none _)
   | (with_reducible refine LeO.ite ?_ ?_)
   | (with_reducible refine LeO.bind ?_ (fun _ => ?_))
   | exact ih0 _ _ _ _ _ _ _ _ _ _ _ _ _ _ _ _
   | exact ih1 _ _ _ _ _ _ _ _ _ _ _ _
   | exact ih2 _ _ _ _ _
   | exact impl_Moved.mono _ _ _ _ _
   | exact laws_eqPart.mono _ _ _ _ _ _ _
   | exact laws_heldPart.mono _ _ _ _ _
   | exact laws_markPart.mono _ _ _ _ _
   | exact laws_szPart.mono _ _ _ _ _
   | exact laws_toPart.mono _ _ _ _
   | exact spec_Moved.mono _ _ _ _ _
   | exact LeO.none _
   | refine LeO.ite ?_ ?_
   | refine LeO.bind ?_ (fun _ => ?_)
set_option maxHeartbeats 8000000 in
set_option maxRecDepth 100000 in
theorem laws_FnExactMoved.calls (k : Nat) (a0_0 : ByteArray) (A0_1 : Option Addr) (c0_1 : Nat) (l0_1 : List (S162)) (A0_2 : Option Addr) (c0_2 : Nat) (l0_2 : List (S159)) (a1 : Int) (r : Bool) (w : World) (hr0_1 : Kd.C k162 w A0_1 l0_1.length l0_1) (hc0_1 : l0_1.length ≤ c0_1) (hr0_2 : Kd.C k159 w A0_2 l0_2.length l0_2) (hc0_2 : l0_2.length ≤ c0_2) (h : laws_FnExactMoved.f k a0_0 l0_1 l0_2 a1 = some r) :
  Calls Try.prog 12 #[.agg #[.string a0_0, .slice A0_1 l0_1.length c0_1, .slice A0_2 l0_2.length c0_2], .int .i64 a1] w fun e w' => e = .returned (.bool r) ∧ Below w.heap.size w w' := by
 have hu39 := Try.underlying39
 have hu45 := Try.underlying45
 have HR0_1 := Aside0.mk hr0_1
 have HC0_1 := Aside0.mk hc0_1
 clear hr0_1 hc0_1
 have HR0_2 := Aside0.mk hr0_2
 have HC0_2 := Aside0.mk hc0_2
 clear hr0_2 hc0_2
 have HB := Aside0.mk (Below.refl w.heap.size w)
 have H : ((laws_szPart.f k a0_0 l0_1 l0_2 1048576).bind fun t284 => (if t284 < 0 then (some true) else ((laws_toPart.f k a0_0 l0_1 l0_2).bind fun bt285 => ((spec_Moved.f k bt285.1 bt285.2.1 bt285.2.2 a1).bind fun bt292 => ((laws_toPart.f k a0_0 l0_1 l0_2).bind fun bt301 => ((impl_Moved.f k bt301.1 bt301.2.1 bt301.2.2 a1).bind fun bt309 => ((laws_eqPart.f k bt309.1 bt309.2.1 bt309.2.2.1 bt292.1 bt292.2.1 bt292.2.2.1).bind fun t318 => (if t318 = true then (laws_FnExactMoved.j0 k a1 bt292.2.2.2 bt309.2.2.2 (bt309.2.2.2 != bt292.2.2.2) a0_0 l0_1 l0_2 bt292.1 bt292.2.1 bt292.2.2.1 bt301.1 bt301.2.1 bt301.2.2 bt309.1 bt309.2.1 bt309.2.2.1) else (laws_FnExactMoved.j0 k a1 bt292.2.2.2 bt309.2.2.2 true a0_0 l0_1 l0_2 bt292.1 bt292.2.1 bt292.2.2.1 bt301.1 bt301.2.1 bt301.2.2 bt309.1 bt309.2.1 bt309.2.2.1))))))))) = some r := h
 clear h
 replace H := Option.bind_eq_some_iff.mp H
 obtain ⟨t284, A30, H⟩ := H
 replace H : (if t284 < 0 then (some true) else ((laws_toPart.f k a0_0 l0_1 l0_2).bind fun bt285 => ((spec_Moved.f k bt285.1 bt285.2.1 bt285.2.2 a1).bind fun bt292 => ((laws_toPart.f k a0_0 l0_1 l0_2).bind fun bt301 => ((impl_Moved.f k bt301.1 bt301.2.1 bt301.2.2 a1).bind fun bt309 => ((laws_eqPart.f k bt309.1 bt309.2.1 bt309.2.2.1 bt292.1 bt292.2.1 bt292.2.2.1).bind fun t318 => (if t318 = true then (laws_FnExactMoved.j0 k a1 bt292.2.2.2 bt309.2.2.2 (bt309.2.2.2 != bt292.2.2.2) a0_0 l0_1 l0_2 bt292.1 bt292.2.1 bt292.2.2.1 bt301.1 bt301.2.1 bt301.2.2 bt309.1 bt309.2.1 bt309.2.2.1) else (laws_FnExactMoved.j0 k a1 bt292.2.2.2 bt309.2.2.2 true a0_0 l0_1 l0_2 bt292.1 bt292.2.1 bt292.2.2.1 bt301.1 bt301.2.1 bt301.2.2 bt309.1 bt309.2.1 bt309.2.2.1)))))))) = some r := H
 have A3 := Aside0.mk A30
 clear A30
 by_cases c4 : t284 < 0
 ·rw [if_pos c4] at H
  have c4b0 : decide (t284 < 0) = true := decide_eq_true c4
  clear c4
  obtain rfl := Option.some.inj H
  go_enter Try.func12, Try.ntmps12
  go_wp2_with (first | ((with_reducible refine gate_dst (N := 2) rfl ?_); refine box_event ?hg (N := 2) ?hd (cs := #[.string a0_0, .slice A0_1 l0_1.length c0_1, .slice A0_2 l0_2.length c0_2]) (t := 39) ?hr ?_; (case hd => rfl); (case hg => rfl); (case hr => first | (go_simp; done) | (go_simp; rfl)); intro gb283 hg w5 hbox hb; have n0_ := Aside0.mk (below_step (zB14_0) hb); have n1_ := Aside0.mk (hbox); have n2_ := Aside0.mk ((by rw [hg]; exact (below_size (zB14_0)) : w.heap.size ≤ gb283)); have n3_ := Aside0.mk ((by rw [hg]; exact (below_size (zB14_0)) : w.heap.size ≤ gb283)); clear HB; have HB := n0_; have BK283 := n1_; have GW283 := n2_; have GE283 := n3_; clear n0_ n1_ n2_ n3_; clear hb hbox hg; obtain ⟨hcz6_0, hcz6_1, hcz6_2, hfz6_0, hfz6_1, hfz6_2⟩ := zc14_3 (w := w5) BK283.out) | ((with_reducible refine gate_callee (f := 24) rfl ?_); refine goesL_ (some 18) rfl rfl Try.func24 (by kernel_rfl) rfl #[.agg #[.string a0_0, .slice A0_1 l0_1.length c0_1, .slice A0_2 l0_2.length c0_2], .int .i64 1048576] rfl zT14 ?_; (with_reducible refine (laws_szPart.calls k a0_0 _ _ l0_1 _ _ l0_2 1048576 t284 _ ?side1 ?side2 ?side3 ?side4 A3.out).mono ?_); (case side1 => exact zC14 (Kd.C_below HR0_1.out HB.out)); (case side2 => exact HC0_1.out); (case side3 => exact zC14 (Kd.C_below HR0_2.out HB.out)); (case side4 => exact HC0_2.out); rintro e w7 ⟨rfl, hb⟩; refine ⟨_, rfl, ?_⟩; have n0_ := Aside0.mk (zb14 BK283.out hb); have n1_ := Aside0.mk (below_step (zB14_1) hb); clear BK283; clear HB; have BK283 := n0_; have HB := n1_; clear n0_ n1_; (try clear hb); (try clear hb2); (try clear hk); (try clear hi)))
  go_ret
  exact ⟨zE14, zB14_1⟩
 rw [if_neg c4] at H
 have c4b0 : decide (t284 < 0) = false := decide_eq_false c4
 clear c4
 replace H := Option.bind_eq_some_iff.mp H
 obtain ⟨⟨t285, t286, t289⟩, A80, H⟩ := H
 replace H : ((spec_Moved.f k t285 t286 t289 a1).bind fun bt292 => ((laws_toPart.f k a0_0 l0_1 l0_2).bind fun bt301 => ((impl_Moved.f k bt301.1 bt301.2.1 bt301.2.2 a1).bind fun bt309 => ((laws_eqPart.f k bt309.1 bt309.2.1 bt309.2.2.1 bt292.1 bt292.2.1 bt292.2.2.1).bind fun t318 => (if t318 = true then (laws_FnExactMoved.j0 k a1 bt292.2.2.2 bt309.2.2.2 (bt309.2.2.2 != bt292.2.2.2) a0_0 l0_1 l0_2 bt292.1 bt292.2.1 bt292.2.2.1 bt301.1 bt301.2.1 bt301.2.2 bt309.1 bt309.2.1 bt309.2.2.1) else (laws_FnExactMoved.j0 k a1 bt292.2.2.2 bt309.2.2.2 true a0_0 l0_1 l0_2 bt292.1 bt292.2.1 bt292.2.2.1 bt301.1 bt301.2.1 bt301.2.2 bt309.1 bt309.2.1 bt309.2.2.1)))))) = some r := H
 have A8 := Aside0.mk A80
 clear A80
 replace H := Option.bind_eq_some_iff.mp H
 obtain ⟨⟨t292, t293, t296, t299⟩, A90, H⟩ := H
 replace H : ((laws_toPart.f k a0_0 l0_1 l0_2).bind fun bt301 => ((impl_Moved.f k bt301.1 bt301.2.1 bt301.2.2 a1).bind fun bt309 => ((laws_eqPart.f k bt309.1 bt309.2.1 bt309.2.2.1 t292 t293 t296).bind fun t318 => (if t318 = true then (laws_FnExactMoved.j0 k a1 t299 bt309.2.2.2 (bt309.2.2.2 != t299) a0_0 l0_1 l0_2 t292 t293 t296 bt301.1 bt301.2.1 bt301.2.2 bt309.1 bt309.2.1 bt309.2.2.1) else (laws_FnExactMoved.j0 k a1 t299 bt309.2.2.2 true a0_0 l0_1 l0_2 t292 t293 t296 bt301.1 bt301.2.1 bt301.2.2 bt309.1 bt309.2.1 bt309.2.2.1))))) = some r := H
 have A9 := Aside0.mk A90
 clear A90
 replace H := Option.bind_eq_some_iff.mp H
 obtain ⟨⟨t301, t302, t305⟩, A100, H⟩ := H
 replace H : ((impl_Moved.f k t301 t302 t305 a1).bind fun bt309 => ((laws_eqPart.f k bt309.1 bt309.2.1 bt309.2.2.1 t292 t293 t296).bind fun t318 => (if t318 = true then (laws_FnExactMoved.j0 k a1 t299 bt309.2.2.2 (bt309.2.2.2 != t299) a0_0 l0_1 l0_2 t292 t293 t296 t301 t302 t305 bt309.1 bt309.2.1 bt309.2.2.1) else (laws_FnExactMoved.j0 k a1 t299 bt309.2.2.2 true a0_0 l0_1 l0_2 t292 t293 t296 t301 t302 t305 bt309.1 bt309.2.1 bt309.2.2.1)))) = some r := H
 have A10 := Aside0.mk A100
 clear A100
 replace H := Option.bind_eq_some_iff.mp H
 obtain ⟨⟨t309, t310, t313, t316⟩, A110, H⟩ := H
 replace H : ((laws_eqPart.f k t309 t310 t313 t292 t293 t296).bind fun t318 => (if t318 = true then (laws_FnExactMoved.j0 k a1 t299 t316 (t316 != t299) a0_0 l0_1 l0_2 t292 t293 t296 t301 t302 t305 t309 t310 t313) else (laws_FnExactMoved.j0 k a1 t299 t316 true a0_0 l0_1 l0_2 t292 t293 t296 t301 t302 t305 t309 t310 t313))) = some r := H
 have A11 := Aside0.mk A110
 clear A110
 have HC12 := Aside0.mk H
 clear H
 go_enter Try.func12, Try.ntmps12
 go_upto_region 8 with (first | ((with_reducible refine gate_dst (N := 2) rfl ?_); refine box_event ?hg (N := 2) ?hd (cs := #[.string a0_0, .slice A0_1 l0_1.length c0_1, .slice A0_2 l0_2.length c0_2]) (t := 39) ?hr ?_; (case hd => rfl); (case hg => rfl); (case hr => first | (go_simp; done) | (go_simp; rfl)); intro gb283 hg w13 hbox hb; have n0_ := Aside0.mk (below_step (zB14_0) hb); have n1_ := Aside0.mk (hbox); have n2_ := Aside0.mk ((by rw [hg]; exact (below_size (zB14_0)) : w.heap.size ≤ gb283)); have n3_ := Aside0.mk ((by rw [hg]; exact (below_size (zB14_0)) : w.heap.size ≤ gb283)); clear HB; have HB := n0_; have BK283 := n1_; have GW283 := n2_; have GE283 := n3_; clear n0_ n1_ n2_ n3_; clear hb hbox hg; obtain ⟨hcz14_0, hcz14_1, hcz14_2, hfz14_0, hfz14_1, hfz14_2⟩ := zc14_3 (w := w13) BK283.out) | ((with_reducible refine gate_callee (f := 24) rfl ?_); refine goesL_ (some 18) rfl rfl Try.func24 (by kernel_rfl) rfl #[.agg #[.string a0_0, .slice A0_1 l0_1.length c0_1, .slice A0_2 l0_2.length c0_2], .int .i64 1048576] rfl zT14 ?_; (with_reducible refine (laws_szPart.calls k a0_0 _ _ l0_1 _ _ l0_2 1048576 t284 _ ?side1 ?side2 ?side3 ?side4 A3.out).mono ?_); (case side1 => exact zC14 (Kd.C_below HR0_1.out HB.out)); (case side2 => exact HC0_1.out); (case side3 => exact zC14 (Kd.C_below HR0_2.out HB.out)); (case side4 => exact HC0_2.out); rintro e w15 ⟨rfl, hb⟩; refine ⟨_, rfl, ?_⟩; have n0_ := Aside0.mk (zb14 BK283.out hb); have n1_ := Aside0.mk (below_step (zB14_1) hb); clear BK283; clear HB; have BK283 := n0_; have HB := n1_; clear n0_ n1_; (try clear hb); (try clear hb2); (try clear hk); (try clear hi); obtain ⟨hcz16_0, hcz16_1, hcz16_2, hfz16_0, hfz16_1, hfz16_2⟩ := zc14_3 (w := w15) BK283.out) | ((with_reducible refine gate_callee (f := 26) rfl ?_); refine goesL_ (some 23) rfl rfl Try.func26 (by kernel_rfl) rfl #[.agg #[.string a0_0, .slice A0_1 l0_1.length c0_1, .slice A0_2 l0_2.length c0_2]] rfl zT14 ?_; (with_reducible refine (laws_toPart.calls k a0_0 _ _ l0_1 _ _ l0_2 t285 t286 t289 _ ?side1 ?side2 ?side3 ?side4 A8.out).mono ?_); (case side1 => exact zC14 (Kd.C_below HR0_1.out HB.out)); (case side2 => exact HC0_1.out); (case side3 => exact zC14 (Kd.C_below HR0_2.out HB.out)); (case side4 => exact HC0_2.out); rintro e w17 ⟨v287, v290, rfl, ho0, ho1, hb⟩; refine ⟨_, rfl, ?_⟩; have n0_ := Aside0.mk (Kd.R_lower ho0 (below_size (zB14_1))); have n1_ := Aside0.mk (Kd.R_lower ho1 (below_size (zB14_1))); have n2_ := Aside0.mk (zb14 BK283.out hb); have n3_ := Aside0.mk (below_step (zB14_1) hb); clear BK283; clear HB; have HO288 := n0_; have HO291 := n1_; have BK283 := n2_; have HB := n3_; clear n0_ n1_ n2_ n3_; (try clear hb); (try clear hb2); (try clear hk); (try clear hi); (try clear ho0); (try clear ho1); obtain ⟨Ao18, co18, eo18⟩ := Kd.R_slice HO288.out; subst eo18; obtain ⟨Ao19, co19, eo19⟩ := Kd.R_slice HO291.out; subst eo19) | ((with_reducible refine gate_callee (f := 31) rfl ?_); refine goesL_ (some 25) rfl rfl Try.func31 (by kernel_rfl) rfl #[.agg #[.string t285, .slice Ao18 t286.length co18, .slice Ao19 t289.length co19], .int .i64 a1] rfl zT14 ?_; (with_reducible refine (spec_Moved.calls k t285 _ _ t286 _ _ t289 a1 t292 t293 t296 t299 _ ?side1 ?side2 ?side3 ?side4 A9.out).mono ?_); (case side1 => exact zC14 (Kd.R_reads' HO288.out).2.2); (case side2 => exact (Kd.R_reads' HO288.out).2.1); (case side3 => exact zC14 (Kd.R_reads' HO291.out).2.2); (case side4 => exact (Kd.R_reads' HO291.out).2.1); rintro e w20 ⟨v294, v297, rfl, ho0, ho1, hb⟩; refine ⟨_, rfl, ?_⟩; have n0_ := Aside0.mk (Kd.R_elder' (zR14 HO288.out) (Kd.R_base ho0) hb); have n1_ := Aside0.mk (Kd.R_elder' (zR14 HO291.out) (Kd.R_base ho1) hb); have n2_ := Aside0.mk (Kd.R_lower (Kd.R_new' ho0 (Kd.R_lt (zR14 HO288.out))) (below_size (zB14_1))); have n3_ := Aside0.mk (Kd.R_lower (Kd.R_new' ho1 (Kd.R_lt (zR14 HO291.out))) (below_size (zB14_1))); have n4_ := Aside0.mk (zb14 BK283.out hb); have n5_ := Aside0.mk (below_step (zB14_1) hb); clear HO288; clear HO291; clear BK283; clear HB; have HO288 := n0_; have HO291 := n1_; have HO295 := n2_; have HO298 := n3_; have BK283 := n4_; have HB := n5_; clear n0_ n1_ n2_ n3_ n4_ n5_; (try clear hb); (try clear hb2); (try clear hk); (try clear hi); (try clear ho0); (try clear ho1)) | ((with_reducible refine gate_dst (N := 6) rfl ?_); refine box_event ?hg (N := 6) ?hd (cs := #[.string (⟨#[]⟩ : ByteArray), .slice none 0 0, .slice none 0 0]) (t := 45) ?hr ?_; (case hd => rfl); (case hg => rfl); (case hr => first | (go_simp; done) | (go_simp; rfl)); intro gb300 hg w21 hbox hb; have n0_ := Aside0.mk (Kd.R_below (zR14 HO288.out) hb); have n1_ := Aside0.mk (Kd.R_below (zR14 HO291.out) hb); have n2_ := Aside0.mk (Kd.R_below (zR14 HO295.out) hb); have n3_ := Aside0.mk (Kd.R_below (zR14 HO298.out) hb); have n4_ := Aside0.mk (zb14 BK283.out hb); have n5_ := Aside0.mk (below_step (zB14_1) hb); have n6_ := Aside0.mk (hbox); have n7_ := Aside0.mk ((by rw [hg]; exact (below_size (zB14_1)) : w.heap.size ≤ gb300)); have n8_ := Aside0.mk ((by rw [hg]; exact (below_size (zB14_1)) : w.heap.size ≤ gb300)); have n9_ := Aside0.mk ((zn14 BK283.out hg : gb283 ≠ gb300)); have n10_ := Aside0.mk ((zm14 BK283.out hg : gb300 ≠ gb283)); clear HO288; clear HO291; clear HO295; clear HO298; clear BK283; clear HB; have HO288 := n0_; have HO291 := n1_; have HO295 := n2_; have HO298 := n3_; have BK283 := n4_; have HB := n5_; have BK300 := n6_; have GW300 := n7_; have GE300 := n8_; have NB283_300 := n9_; have NB300_283 := n10_; clear n0_ n1_ n2_ n3_ n4_ n5_ n6_ n7_ n8_ n9_ n10_; clear hb hbox hg; have hnb22 := NB300_283.out; have hnc22 := NB283_300.out; obtain ⟨hcz23_0, hcz23_1, hcz23_2, hfz23_0, hfz23_1, hfz23_2⟩ := zc14_3 (w := w21) BK300.out; obtain ⟨Ao24, co24, eo24⟩ := Kd.R_slice HO295.out; subst eo24; obtain ⟨Ao25, co25, eo25⟩ := Kd.R_slice HO298.out; subst eo25; obtain ⟨hcz26_0, hcz26_1, hcz26_2, hfz26_0, hfz26_1, hfz26_2⟩ := zc14_3 (w := w21) BK283.out) | ((with_reducible refine gate_callee (f := 26) rfl ?_); refine goesL_ (some 29) rfl rfl Try.func26 (by kernel_rfl) rfl #[.agg #[.string a0_0, .slice A0_1 l0_1.length c0_1, .slice A0_2 l0_2.length c0_2]] rfl zT14 ?_; (with_reducible refine (laws_toPart.calls k a0_0 _ _ l0_1 _ _ l0_2 t301 t302 t305 _ ?side1 ?side2 ?side3 ?side4 A10.out).mono ?_); (case side1 => exact Kd.C_below HR0_1.out (zB14_2)); (case side2 => exact HC0_1.out); (case side3 => exact Kd.C_below HR0_2.out (zB14_2)); (case side4 => exact HC0_2.out); rintro e w27 ⟨v303, v306, rfl, ho0, ho1, hb⟩; refine ⟨_, rfl, ?_⟩; have n0_ := Aside0.mk (Kd.R_elder' (by (with_reducible repeat (first | apply Kd.R_alloc | apply Kd.R_drewN | apply Kd.R_drew)); exact (Kd.R_mono (Kd.R_far (p := ⟨gb300, 2, none⟩) (Kd.R_far (p := ⟨gb300, 1, none⟩) (Kd.R_far (p := ⟨gb300, 0, none⟩) (Kd.R_types HO288.out BK300.out (by decide)) (fun _ hk => hk.2) (.string t292)) (fun _ hk => hk.2) (.slice Ao24 t293.length co24)) (fun _ hk => hk.2) (.slice Ao25 t296.length co25)) (fun _ h_ => h_.1))) (Kd.R_base ho0) hb); have n1_ := Aside0.mk (Kd.R_elder' (by (with_reducible repeat (first | apply Kd.R_alloc | apply Kd.R_drewN | apply Kd.R_drew)); exact (Kd.R_mono (Kd.R_far (p := ⟨gb300, 2, none⟩) (Kd.R_far (p := ⟨gb300, 1, none⟩) (Kd.R_far (p := ⟨gb300, 0, none⟩) (Kd.R_types HO291.out BK300.out (by decide)) (fun _ hk => hk.2) (.string t292)) (fun _ hk => hk.2) (.slice Ao24 t293.length co24)) (fun _ hk => hk.2) (.slice Ao25 t296.length co25)) (fun _ h_ => h_.1))) (Kd.R_base ho1) hb); have n2_ := Aside0.mk (Kd.R_elder' (by (with_reducible repeat (first | apply Kd.R_alloc | apply Kd.R_drewN | apply Kd.R_drew)); exact (Kd.R_mono (Kd.R_far (p := ⟨gb300, 2, none⟩) (Kd.R_far (p := ⟨gb300, 1, none⟩) (Kd.R_far (p := ⟨gb300, 0, none⟩) (Kd.R_types HO295.out BK300.out (by decide)) (fun _ hk => hk.2) (.string t292)) (fun _ hk => hk.2) (.slice Ao24 t293.length co24)) (fun _ hk => hk.2) (.slice Ao25 t296.length co25)) (fun _ h_ => h_.1))) (Kd.R_base ho0) hb); have n3_ := Aside0.mk (Kd.R_elder' (by (with_reducible repeat (first | apply Kd.R_alloc | apply Kd.R_drewN | apply Kd.R_drew)); exact (Kd.R_mono (Kd.R_far (p := ⟨gb300, 2, none⟩) (Kd.R_far (p := ⟨gb300, 1, none⟩) (Kd.R_far (p := ⟨gb300, 0, none⟩) (Kd.R_types HO298.out BK300.out (by decide)) (fun _ hk => hk.2) (.string t292)) (fun _ hk => hk.2) (.slice Ao24 t293.length co24)) (fun _ hk => hk.2) (.slice Ao25 t296.length co25)) (fun _ h_ => h_.1))) (Kd.R_base ho1) hb); have n4_ := Aside0.mk (Kd.R_lower (Kd.R_new' (Kd.R_new' ho0 (Kd.R_lt (by (with_reducible repeat (first | apply Kd.R_alloc | apply Kd.R_drewN | apply Kd.R_drew)); exact (Kd.R_mono (Kd.R_far (p := ⟨gb300, 2, none⟩) (Kd.R_far (p := ⟨gb300, 1, none⟩) (Kd.R_far (p := ⟨gb300, 0, none⟩) (Kd.R_types HO288.out BK300.out (by decide)) (fun _ hk => hk.2) (.string t292)) (fun _ hk => hk.2) (.slice Ao24 t293.length co24)) (fun _ hk => hk.2) (.slice Ao25 t296.length co25)) (fun _ h_ => h_.1))))) (Kd.R_lt (by (with_reducible repeat (first | apply Kd.R_alloc | apply Kd.R_drewN | apply Kd.R_drew)); exact (Kd.R_mono (Kd.R_far (p := ⟨gb300, 2, none⟩) (Kd.R_far (p := ⟨gb300, 1, none⟩) (Kd.R_far (p := ⟨gb300, 0, none⟩) (Kd.R_types HO295.out BK300.out (by decide)) (fun _ hk => hk.2) (.string t292)) (fun _ hk => hk.2) (.slice Ao24 t293.length co24)) (fun _ hk => hk.2) (.slice Ao25 t296.length co25)) (fun _ h_ => h_.1))))) (below_size (zB14_2))); have n5_ := Aside0.mk (Kd.R_lower (Kd.R_new' (Kd.R_new' ho1 (Kd.R_lt (by (with_reducible repeat (first | apply Kd.R_alloc | apply Kd.R_drewN | apply Kd.R_drew)); exact (Kd.R_mono (Kd.R_far (p := ⟨gb300, 2, none⟩) (Kd.R_far (p := ⟨gb300, 1, none⟩) (Kd.R_far (p := ⟨gb300, 0, none⟩) (Kd.R_types HO291.out BK300.out (by decide)) (fun _ hk => hk.2) (.string t292)) (fun _ hk => hk.2) (.slice Ao24 t293.length co24)) (fun _ hk => hk.2) (.slice Ao25 t296.length co25)) (fun _ h_ => h_.1))))) (Kd.R_lt (by (with_reducible repeat (first | apply Kd.R_alloc | apply Kd.R_drewN | apply Kd.R_drew)); exact (Kd.R_mono (Kd.R_far (p := ⟨gb300, 2, none⟩) (Kd.R_far (p := ⟨gb300, 1, none⟩) (Kd.R_far (p := ⟨gb300, 0, none⟩) (Kd.R_types HO298.out BK300.out (by decide)) (fun _ hk => hk.2) (.string t292)) (fun _ hk => hk.2) (.slice Ao24 t293.length co24)) (fun _ hk => hk.2) (.slice Ao25 t296.length co25)) (fun _ h_ => h_.1))))) (below_size (zB14_2))); have n6_ := Aside0.mk (blk_below (g := gb283) (o := .cells #[.string a0_0, .slice A0_1 l0_1.length c0_1, .slice A0_2 l0_2.length c0_2] 39 (0, 0)) (by refine zP14 ?_; refine blk_far ?_ NB283_300.out _; refine zP14 ?_; refine blk_far ?_ NB283_300.out _; refine zP14 ?_; refine blk_far ?_ NB283_300.out _; refine zP14 ?_; exact BK283.out) hb); have n7_ := Aside0.mk (blk_below (g := gb300) (o := .cells #[.string t292, .slice Ao24 t293.length co24, .slice Ao25 t296.length co25] 45 (0, 0)) (by refine zP14 ?_; refine blk_put (cs := #[.string t292, .slice Ao24 t293.length co24, .slice none 0 0]) ?_ 2 _ rfl; refine zP14 ?_; refine blk_put (cs := #[.string t292, .slice none 0 0, .slice none 0 0]) ?_ 1 _ rfl; refine zP14 ?_; refine blk_put (cs := #[.string (⟨#[]⟩ : ByteArray), .slice none 0 0, .slice none 0 0]) ?_ 0 _ rfl; refine zP14 ?_; exact BK300.out) hb); have n8_ := Aside0.mk (below_step (zB14_2) hb); clear HO288; clear HO291; clear HO295; clear HO298; clear BK283; clear BK300; clear HB; have HO288 := n0_; have HO291 := n1_; have HO295 := n2_; have HO298 := n3_; have HO304 := n4_; have HO307 := n5_; have BK283 := n6_; have BK300 := n7_; have HB := n8_; clear n0_ n1_ n2_ n3_ n4_ n5_ n6_ n7_ n8_; (try clear hb); (try clear hb2); (try clear hk); (try clear hi); (try clear ho0); (try clear ho1)) | ((with_reducible refine gate_dst (N := 8) rfl ?_); refine box_event ?hg (N := 8) ?hd (cs := #[.string (⟨#[]⟩ : ByteArray), .slice none 0 0, .slice none 0 0]) (t := 45) ?hr ?_; (case hd => rfl); (case hg => rfl); (case hr => first | (go_simp; done) | (go_simp; rfl)); intro gb308 hg w28 hbox hb; have n0_ := Aside0.mk (Kd.R_below (zR14 HO288.out) hb); have n1_ := Aside0.mk (Kd.R_below (zR14 HO291.out) hb); have n2_ := Aside0.mk (Kd.R_below (zR14 HO295.out) hb); have n3_ := Aside0.mk (Kd.R_below (zR14 HO298.out) hb); have n4_ := Aside0.mk (Kd.R_below (zR14 HO304.out) hb); have n5_ := Aside0.mk (Kd.R_below (zR14 HO307.out) hb); have n6_ := Aside0.mk (zb14 BK283.out hb); have n7_ := Aside0.mk (zb14 BK300.out hb); have n8_ := Aside0.mk (below_step (zB14_2) hb); have n9_ := Aside0.mk (hbox); have n10_ := Aside0.mk ((by rw [hg]; exact (below_size (zB14_2)) : w.heap.size ≤ gb308)); have n11_ := Aside0.mk ((by rw [hg]; exact (below_size (zB14_2)) : w.heap.size ≤ gb308)); have n12_ := Aside0.mk ((zn14 BK283.out hg : gb283 ≠ gb308)); have n13_ := Aside0.mk ((zm14 BK283.out hg : gb308 ≠ gb283)); have n14_ := Aside0.mk ((zn14 BK300.out hg : gb300 ≠ gb308)); have n15_ := Aside0.mk ((zm14 BK300.out hg : gb308 ≠ gb300)); clear HO288; clear HO291; clear HO295; clear HO298; clear HO304; clear HO307; clear BK283; clear BK300; clear HB; have HO288 := n0_; have HO291 := n1_; have HO295 := n2_; have HO298 := n3_; have HO304 := n4_; have HO307 := n5_; have BK283 := n6_; have BK300 := n7_; have HB := n8_; have BK308 := n9_; have GW308 := n10_; have GE308 := n11_; have NB283_308 := n12_; have NB308_283 := n13_; have NB300_308 := n14_; have NB308_300 := n15_; clear n0_ n1_ n2_ n3_ n4_ n5_ n6_ n7_ n8_ n9_ n10_ n11_ n12_ n13_ n14_ n15_; clear hb hbox hg; have hnb29 := NB308_283.out; have hnc29 := NB283_308.out; have hnb30 := NB308_300.out; have hnc30 := NB300_308.out; obtain ⟨hcz31_0, hcz31_1, hcz31_2, hfz31_0, hfz31_1, hfz31_2⟩ := zc14_3 (w := w28) BK308.out; obtain ⟨Ao32, co32, eo32⟩ := Kd.R_slice HO304.out; subst eo32; obtain ⟨Ao33, co33, eo33⟩ := Kd.R_slice HO307.out; subst eo33) | ((with_reducible refine gate_callee (f := 30) rfl ?_); refine goesL_ (some 33) rfl rfl Try.func30 (by kernel_rfl) rfl #[.agg #[.string t301, .slice Ao32 t302.length co32, .slice Ao33 t305.length co33], .int .i64 a1] rfl zT14 ?_; (with_reducible refine (impl_Moved.calls k t301 _ _ t302 _ _ t305 a1 t309 t310 t313 t316 _ ?side1 ?side2 ?side3 ?side4 A11.out).mono ?_); (case side1 => refine (Kd.R_reads' (e := 54) (base := w.heap.size) (ok := fun k_ => ((True ∧ some k_ ≠ (.slice Ao18 t286.length co18 : Value).ownBlock) ∧ some k_ ≠ (.slice Ao24 t293.length co24 : Value).ownBlock)) (n := t302.length) (c := co32) ?_).2.2; exact (by (with_reducible repeat (first | apply Kd.R_alloc | apply Kd.R_drewN | apply Kd.R_drew)); exact (Kd.R_mono (Kd.R_far (p := ⟨gb308, 2, none⟩) (Kd.R_far (p := ⟨gb308, 1, none⟩) (Kd.R_far (p := ⟨gb308, 0, none⟩) (Kd.R_types HO304.out BK308.out (by decide)) (fun _ hk => hk.2) (.string t301)) (fun _ hk => hk.2) (.slice Ao32 t302.length co32)) (fun _ hk => hk.2) (.slice Ao33 t305.length co33)) (fun _ h_ => h_.1)))); (case side2 => exact (Kd.R_reads' HO304.out).2.1); (case side3 => refine (Kd.R_reads' (e := 87) (base := w.heap.size) (ok := fun k_ => ((True ∧ some k_ ≠ (.slice Ao19 t289.length co19 : Value).ownBlock) ∧ some k_ ≠ (.slice Ao25 t296.length co25 : Value).ownBlock)) (n := t305.length) (c := co33) ?_).2.2; exact (by (with_reducible repeat (first | apply Kd.R_alloc | apply Kd.R_drewN | apply Kd.R_drew)); exact (Kd.R_mono (Kd.R_far (p := ⟨gb308, 2, none⟩) (Kd.R_far (p := ⟨gb308, 1, none⟩) (Kd.R_far (p := ⟨gb308, 0, none⟩) (Kd.R_types HO307.out BK308.out (by decide)) (fun _ hk => hk.2) (.string t301)) (fun _ hk => hk.2) (.slice Ao32 t302.length co32)) (fun _ hk => hk.2) (.slice Ao33 t305.length co33)) (fun _ h_ => h_.1)))); (case side4 => exact (Kd.R_reads' HO307.out).2.1); rintro e w34 ⟨v311, v314, rfl, ho0, ho1, hb⟩; refine ⟨_, rfl, ?_⟩; have n0_ := Aside0.mk (Kd.R_elder' (by (with_reducible repeat (first | apply Kd.R_alloc | apply Kd.R_drewN | apply Kd.R_drew)); exact (Kd.R_mono (Kd.R_far (p := ⟨gb308, 2, none⟩) (Kd.R_far (p := ⟨gb308, 1, none⟩) (Kd.R_far (p := ⟨gb308, 0, none⟩) (Kd.R_types HO288.out BK308.out (by decide)) (fun _ hk => hk.2) (.string t301)) (fun _ hk => hk.2) (.slice Ao32 t302.length co32)) (fun _ hk => hk.2) (.slice Ao33 t305.length co33)) (fun _ h_ => h_.1))) (Kd.R_base ho0) hb); have n1_ := Aside0.mk (Kd.R_elder' (by (with_reducible repeat (first | apply Kd.R_alloc | apply Kd.R_drewN | apply Kd.R_drew)); exact (Kd.R_mono (Kd.R_far (p := ⟨gb308, 2, none⟩) (Kd.R_far (p := ⟨gb308, 1, none⟩) (Kd.R_far (p := ⟨gb308, 0, none⟩) (Kd.R_types HO291.out BK308.out (by decide)) (fun _ hk => hk.2) (.string t301)) (fun _ hk => hk.2) (.slice Ao32 t302.length co32)) (fun _ hk => hk.2) (.slice Ao33 t305.length co33)) (fun _ h_ => h_.1))) (Kd.R_base ho1) hb); have n2_ := Aside0.mk (Kd.R_elder' (by (with_reducible repeat (first | apply Kd.R_alloc | apply Kd.R_drewN | apply Kd.R_drew)); exact (Kd.R_mono (Kd.R_far (p := ⟨gb308, 2, none⟩) (Kd.R_far (p := ⟨gb308, 1, none⟩) (Kd.R_far (p := ⟨gb308, 0, none⟩) (Kd.R_types HO295.out BK308.out (by decide)) (fun _ hk => hk.2) (.string t301)) (fun _ hk => hk.2) (.slice Ao32 t302.length co32)) (fun _ hk => hk.2) (.slice Ao33 t305.length co33)) (fun _ h_ => h_.1))) (Kd.R_base ho0) hb); have n3_ := Aside0.mk (Kd.R_elder' (by (with_reducible repeat (first | apply Kd.R_alloc | apply Kd.R_drewN | apply Kd.R_drew)); exact (Kd.R_mono (Kd.R_far (p := ⟨gb308, 2, none⟩) (Kd.R_far (p := ⟨gb308, 1, none⟩) (Kd.R_far (p := ⟨gb308, 0, none⟩) (Kd.R_types HO298.out BK308.out (by decide)) (fun _ hk => hk.2) (.string t301)) (fun _ hk => hk.2) (.slice Ao32 t302.length co32)) (fun _ hk => hk.2) (.slice Ao33 t305.length co33)) (fun _ h_ => h_.1))) (Kd.R_base ho1) hb); have n4_ := Aside0.mk (Kd.R_elder' (by (with_reducible repeat (first | apply Kd.R_alloc | apply Kd.R_drewN | apply Kd.R_drew)); exact (Kd.R_mono (Kd.R_far (p := ⟨gb308, 2, none⟩) (Kd.R_far (p := ⟨gb308, 1, none⟩) (Kd.R_far (p := ⟨gb308, 0, none⟩) (Kd.R_types HO304.out BK308.out (by decide)) (fun _ hk => hk.2) (.string t301)) (fun _ hk => hk.2) (.slice Ao32 t302.length co32)) (fun _ hk => hk.2) (.slice Ao33 t305.length co33)) (fun _ h_ => h_.1))) (Kd.R_base ho0) hb); have n5_ := Aside0.mk (Kd.R_elder' (by (with_reducible repeat (first | apply Kd.R_alloc | apply Kd.R_drewN | apply Kd.R_drew)); exact (Kd.R_mono (Kd.R_far (p := ⟨gb308, 2, none⟩) (Kd.R_far (p := ⟨gb308, 1, none⟩) (Kd.R_far (p := ⟨gb308, 0, none⟩) (Kd.R_types HO307.out BK308.out (by decide)) (fun _ hk => hk.2) (.string t301)) (fun _ hk => hk.2) (.slice Ao32 t302.length co32)) (fun _ hk => hk.2) (.slice Ao33 t305.length co33)) (fun _ h_ => h_.1))) (Kd.R_base ho1) hb); have n6_ := Aside0.mk (Kd.R_lower (Kd.R_new' (Kd.R_new' (Kd.R_new' ho0 (Kd.R_lt (by (with_reducible repeat (first | apply Kd.R_alloc | apply Kd.R_drewN | apply Kd.R_drew)); exact (Kd.R_mono (Kd.R_far (p := ⟨gb308, 2, none⟩) (Kd.R_far (p := ⟨gb308, 1, none⟩) (Kd.R_far (p := ⟨gb308, 0, none⟩) (Kd.R_types HO288.out BK308.out (by decide)) (fun _ hk => hk.2) (.string t301)) (fun _ hk => hk.2) (.slice Ao32 t302.length co32)) (fun _ hk => hk.2) (.slice Ao33 t305.length co33)) (fun _ h_ => h_.1))))) (Kd.R_lt (by (with_reducible repeat (first | apply Kd.R_alloc | apply Kd.R_drewN | apply Kd.R_drew)); exact (Kd.R_mono (Kd.R_far (p := ⟨gb308, 2, none⟩) (Kd.R_far (p := ⟨gb308, 1, none⟩) (Kd.R_far (p := ⟨gb308, 0, none⟩) (Kd.R_types HO295.out BK308.out (by decide)) (fun _ hk => hk.2) (.string t301)) (fun _ hk => hk.2) (.slice Ao32 t302.length co32)) (fun _ hk => hk.2) (.slice Ao33 t305.length co33)) (fun _ h_ => h_.1))))) (Kd.R_lt (by (with_reducible repeat (first | apply Kd.R_alloc | apply Kd.R_drewN | apply Kd.R_drew)); exact (Kd.R_mono (Kd.R_far (p := ⟨gb308, 2, none⟩) (Kd.R_far (p := ⟨gb308, 1, none⟩) (Kd.R_far (p := ⟨gb308, 0, none⟩) (Kd.R_types HO304.out BK308.out (by decide)) (fun _ hk => hk.2) (.string t301)) (fun _ hk => hk.2) (.slice Ao32 t302.length co32)) (fun _ hk => hk.2) (.slice Ao33 t305.length co33)) (fun _ h_ => h_.1))))) (below_size (zB14_3))); have n7_ := Aside0.mk (Kd.R_lower (Kd.R_new' (Kd.R_new' (Kd.R_new' ho1 (Kd.R_lt (by (with_reducible repeat (first | apply Kd.R_alloc | apply Kd.R_drewN | apply Kd.R_drew)); exact (Kd.R_mono (Kd.R_far (p := ⟨gb308, 2, none⟩) (Kd.R_far (p := ⟨gb308, 1, none⟩) (Kd.R_far (p := ⟨gb308, 0, none⟩) (Kd.R_types HO291.out BK308.out (by decide)) (fun _ hk => hk.2) (.string t301)) (fun _ hk => hk.2) (.slice Ao32 t302.length co32)) (fun _ hk => hk.2) (.slice Ao33 t305.length co33)) (fun _ h_ => h_.1))))) (Kd.R_lt (by (with_reducible repeat (first | apply Kd.R_alloc | apply Kd.R_drewN | apply Kd.R_drew)); exact (Kd.R_mono (Kd.R_far (p := ⟨gb308, 2, none⟩) (Kd.R_far (p := ⟨gb308, 1, none⟩) (Kd.R_far (p := ⟨gb308, 0, none⟩) (Kd.R_types HO298.out BK308.out (by decide)) (fun _ hk => hk.2) (.string t301)) (fun _ hk => hk.2) (.slice Ao32 t302.length co32)) (fun _ hk => hk.2) (.slice Ao33 t305.length co33)) (fun _ h_ => h_.1))))) (Kd.R_lt (by (with_reducible repeat (first | apply Kd.R_alloc | apply Kd.R_drewN | apply Kd.R_drew)); exact (Kd.R_mono (Kd.R_far (p := ⟨gb308, 2, none⟩) (Kd.R_far (p := ⟨gb308, 1, none⟩) (Kd.R_far (p := ⟨gb308, 0, none⟩) (Kd.R_types HO307.out BK308.out (by decide)) (fun _ hk => hk.2) (.string t301)) (fun _ hk => hk.2) (.slice Ao32 t302.length co32)) (fun _ hk => hk.2) (.slice Ao33 t305.length co33)) (fun _ h_ => h_.1))))) (below_size (zB14_3))); have n8_ := Aside0.mk (blk_below (g := gb283) (o := .cells #[.string a0_0, .slice A0_1 l0_1.length c0_1, .slice A0_2 l0_2.length c0_2] 39 (0, 0)) (by refine zP14 ?_; refine blk_far ?_ NB283_308.out _; refine zP14 ?_; refine blk_far ?_ NB283_308.out _; refine zP14 ?_; refine blk_far ?_ NB283_308.out _; refine zP14 ?_; exact BK283.out) hb); have n9_ := Aside0.mk (blk_below (g := gb300) (o := .cells #[.string t292, .slice Ao24 t293.length co24, .slice Ao25 t296.length co25] 45 (0, 0)) (by refine zP14 ?_; refine blk_far ?_ NB300_308.out _; refine zP14 ?_; refine blk_far ?_ NB300_308.out _; refine zP14 ?_; refine blk_far ?_ NB300_308.out _; refine zP14 ?_; exact BK300.out) hb); have n10_ := Aside0.mk (blk_below (g := gb308) (o := .cells #[.string t301, .slice Ao32 t302.length co32, .slice Ao33 t305.length co33] 45 (0, 0)) (by refine zP14 ?_; refine blk_put (cs := #[.string t301, .slice Ao32 t302.length co32, .slice none 0 0]) ?_ 2 _ rfl; refine zP14 ?_; refine blk_put (cs := #[.string t301, .slice none 0 0, .slice none 0 0]) ?_ 1 _ rfl; refine zP14 ?_; refine blk_put (cs := #[.string (⟨#[]⟩ : ByteArray), .slice none 0 0, .slice none 0 0]) ?_ 0 _ rfl; refine zP14 ?_; exact BK308.out) hb); have n11_ := Aside0.mk (below_step (zB14_3) hb); clear HO288; clear HO291; clear HO295; clear HO298; clear HO304; clear HO307; clear BK283; clear BK300; clear BK308; clear HB; have HO288 := n0_; have HO291 := n1_; have HO295 := n2_; have HO298 := n3_; have HO304 := n4_; have HO307 := n5_; have HO312 := n6_; have HO315 := n7_; have BK283 := n8_; have BK300 := n9_; have BK308 := n10_; have HB := n11_; clear n0_ n1_ n2_ n3_ n4_ n5_ n6_ n7_ n8_ n9_ n10_ n11_; (try clear hb); (try clear hb2); (try clear hk); (try clear hi); (try clear ho0); (try clear ho1)) | ((with_reducible refine gate_dst (N := 9) rfl ?_); refine box_event ?hg (N := 9) ?hd (cs := #[.string (⟨#[]⟩ : ByteArray), .slice none 0 0, .slice none 0 0]) (t := 45) ?hr ?_; (case hd => rfl); (case hg => rfl); (case hr => first | (go_simp; done) | (go_simp; rfl)); intro gb317 hg w35 hbox hb; have n0_ := Aside0.mk (Kd.R_below (zR14 HO288.out) hb); have n1_ := Aside0.mk (Kd.R_below (zR14 HO291.out) hb); have n2_ := Aside0.mk (Kd.R_below (zR14 HO295.out) hb); have n3_ := Aside0.mk (Kd.R_below (zR14 HO298.out) hb); have n4_ := Aside0.mk (Kd.R_below (zR14 HO304.out) hb); have n5_ := Aside0.mk (Kd.R_below (zR14 HO307.out) hb); have n6_ := Aside0.mk (Kd.R_below (zR14 HO312.out) hb); have n7_ := Aside0.mk (Kd.R_below (zR14 HO315.out) hb); have n8_ := Aside0.mk (zb14 BK283.out hb); have n9_ := Aside0.mk (zb14 BK300.out hb); have n10_ := Aside0.mk (zb14 BK308.out hb); have n11_ := Aside0.mk (below_step (zB14_3) hb); have n12_ := Aside0.mk (hbox); have n13_ := Aside0.mk ((by rw [hg]; exact (below_size (zB14_3)) : w.heap.size ≤ gb317)); have n14_ := Aside0.mk ((by rw [hg]; exact (below_size (zB14_3)) : w.heap.size ≤ gb317)); have n15_ := Aside0.mk ((zn14 BK283.out hg : gb283 ≠ gb317)); have n16_ := Aside0.mk ((zm14 BK283.out hg : gb317 ≠ gb283)); have n17_ := Aside0.mk ((zn14 BK300.out hg : gb300 ≠ gb317)); have n18_ := Aside0.mk ((zm14 BK300.out hg : gb317 ≠ gb300)); have n19_ := Aside0.mk ((zn14 BK308.out hg : gb308 ≠ gb317)); have n20_ := Aside0.mk ((zm14 BK308.out hg : gb317 ≠ gb308)); clear HO288; clear HO291; clear HO295; clear HO298; clear HO304; clear HO307; clear HO312; clear HO315; clear BK283; clear BK300; clear BK308; clear HB; have HO288 := n0_; have HO291 := n1_; have HO295 := n2_; have HO298 := n3_; have HO304 := n4_; have HO307 := n5_; have HO312 := n6_; have HO315 := n7_; have BK283 := n8_; have BK300 := n9_; have BK308 := n10_; have HB := n11_; have BK317 := n12_; have GW317 := n13_; have GE317 := n14_; have NB283_317 := n15_; have NB317_283 := n16_; have NB300_317 := n17_; have NB317_300 := n18_; have NB308_317 := n19_; have NB317_308 := n20_; clear n0_ n1_ n2_ n3_ n4_ n5_ n6_ n7_ n8_ n9_ n10_ n11_ n12_ n13_ n14_ n15_ n16_ n17_ n18_ n19_ n20_; clear hb hbox hg; have hnb36 := NB317_283.out; have hnc36 := NB283_317.out; have hnb37 := NB317_300.out; have hnc37 := NB300_317.out; have hnb38 := NB317_308.out; have hnc38 := NB308_317.out; obtain ⟨hcz39_0, hcz39_1, hcz39_2, hfz39_0, hfz39_1, hfz39_2⟩ := zc14_3 (w := w35) BK317.out; obtain ⟨Ao40, co40, eo40⟩ := Kd.R_slice HO312.out; subst eo40; obtain ⟨Ao41, co41, eo41⟩ := Kd.R_slice HO315.out; subst eo41))
 (try simp only [Act.put, List.setIfInBounds_toArray, List.set_cons_zero, List.set_cons_succ])
 go_cut [44] (fun v44 wc => ∃ (kq : Nat) (x44_11 : Bool), v44 = .bool x44_11 ∧ Aside0 (laws_FnExactMoved.j0 kq a1 t299 t316 x44_11 a0_0 l0_1 l0_2 t292 t293 t296 t301 t302 t305 t309 t310 t313 = some r) ∧ Aside0 (kq ≤ k) ∧ Aside0 (Kd.R k54 54 wc w.heap.size (fun k_ => some k_ ≠ ((.slice Ao32 t302.length co32) : Value).ownBlock ∧ some k_ ≠ ((.slice Ao40 t310.length co40) : Value).ownBlock) (.slice Ao24 t293.length co24) t293) ∧ Aside0 (Kd.R k87 87 wc w.heap.size (fun k_ => some k_ ≠ ((.slice Ao33 t305.length co33) : Value).ownBlock ∧ some k_ ≠ ((.slice Ao41 t313.length co41) : Value).ownBlock) (.slice Ao25 t296.length co25) t296) ∧ Aside0 (Kd.R k54 54 wc w.heap.size (fun k_ => some k_ ≠ ((.slice Ao24 t293.length co24) : Value).ownBlock ∧ some k_ ≠ ((.slice Ao40 t310.length co40) : Value).ownBlock) (.slice Ao32 t302.length co32) t302) ∧ Aside0 (Kd.R k87 87 wc w.heap.size (fun k_ => some k_ ≠ ((.slice Ao25 t296.length co25) : Value).ownBlock ∧ some k_ ≠ ((.slice Ao41 t313.length co41) : Value).ownBlock) (.slice Ao33 t305.length co33) t305) ∧ Aside0 (Kd.R k54 54 wc w.heap.size (fun k_ => some k_ ≠ ((.slice Ao24 t293.length co24) : Value).ownBlock ∧ some k_ ≠ ((.slice Ao32 t302.length co32) : Value).ownBlock) (.slice Ao40 t310.length co40) t310) ∧ Aside0 (Kd.R k87 87 wc w.heap.size (fun k_ => some k_ ≠ ((.slice Ao25 t296.length co25) : Value).ownBlock ∧ some k_ ≠ ((.slice Ao33 t305.length co33) : Value).ownBlock) (.slice Ao41 t313.length co41) t313) ∧ Aside0 (wc.heap[gb283]? = some (.cells #[.string a0_0, (.slice A0_1 l0_1.length c0_1), (.slice A0_2 l0_2.length c0_2)] 39 (0, 0))) ∧ Aside0 (wc.heap[gb300]? = some (.cells #[.string t292, (.slice Ao24 t293.length co24), (.slice Ao25 t296.length co25)] 45 (0, 0))) ∧ Aside0 (wc.heap[gb308]? = some (.cells #[.string t301, (.slice Ao32 t302.length co32), (.slice Ao33 t305.length co33)] 45 (0, 0))) ∧ Aside0 (wc.heap[gb317]? = some (.cells #[.string t309, (.slice Ao40 t310.length co40), (.slice Ao41 t313.length co41)] 45 (0, 0))) ∧ Aside0 (Below w.heap.size w wc))
 case first =>
  have H := HC12.out
  clear HC12
  replace H := Option.bind_eq_some_iff.mp H
  obtain ⟨t318, A420, H⟩ := H
  replace H : (if t318 = true then (laws_FnExactMoved.j0 k a1 t299 t316 (t316 != t299) a0_0 l0_1 l0_2 t292 t293 t296 t301 t302 t305 t309 t310 t313) else (laws_FnExactMoved.j0 k a1 t299 t316 true a0_0 l0_1 l0_2 t292 t293 t296 t301 t302 t305 t309 t310 t313)) = some r := H
  have A42 := Aside0.mk A420
  clear A420
  by_cases c43 : t318 = true
  ·subst c43
   have H1 : (laws_FnExactMoved.j0 k a1 t299 t316 (t316 != t299) a0_0 l0_1 l0_2 t292 t293 t296 t301 t302 t305 t309 t310 t313) = some r := by rw [if_pos rfl] at H; exact H
   clear H
   have H := H1
   clear H1
   have H' := Aside0.mk H
   clear H
   have hnb44 := NB317_283.out
   have hnc44 := NB283_317.out
   have hnb45 := NB317_300.out
   have hnc45 := NB300_317.out
   have hnb46 := NB317_308.out
   have hnc46 := NB308_317.out
   obtain ⟨hcz47_0, hcz47_1, hcz47_2, hfz47_0, hfz47_1, hfz47_2⟩ := zc14_3 (w := w35) BK317.out
   have hnb48 := NB300_283.out
   have hnc48 := NB283_300.out
   have hnb49 := NB300_308.out
   have hnc49 := NB308_300.out
   obtain ⟨hcz50_0, hcz50_1, hcz50_2, hfz50_0, hfz50_1, hfz50_2⟩ := zc14_3 (w := w35) BK300.out
   go_wp2_with (first | ((with_reducible refine gate_callee (f := 28) rfl ?_); refine goesL_ (some 38) rfl rfl Try.func28 (by kernel_rfl) rfl #[.agg #[.string t309, .slice Ao40 t310.length co40, .slice Ao41 t313.length co41], .agg #[.string t292, .slice Ao24 t293.length co24, .slice Ao25 t296.length co25]] rfl zT14 ?_; (with_reducible refine (laws_eqPart.calls k t309 _ _ t310 _ _ t313 t292 _ _ t293 _ _ t296 true _ ?side1 ?side2 ?side3 ?side4 ?side5 ?side6 ?side7 ?side8 A42.out).mono ?_); (case side1 => refine (Kd.R_reads' (e := 54) (base := w.heap.size) (ok := fun k_ => (((True ∧ some k_ ≠ (.slice Ao18 t286.length co18 : Value).ownBlock) ∧ some k_ ≠ (.slice Ao24 t293.length co24 : Value).ownBlock) ∧ some k_ ≠ (.slice Ao32 t302.length co32 : Value).ownBlock)) (n := t310.length) (c := co40) ?_).2.2; exact (by (with_reducible repeat (first | apply Kd.R_alloc | apply Kd.R_drewN | apply Kd.R_drew)); exact (Kd.R_mono (Kd.R_far (p := ⟨gb317, 2, none⟩) (Kd.R_far (p := ⟨gb317, 1, none⟩) (Kd.R_far (p := ⟨gb317, 0, none⟩) (Kd.R_types HO312.out BK317.out (by decide)) (fun _ hk => hk.2) (.string t309)) (fun _ hk => hk.2) (.slice Ao40 t310.length co40)) (fun _ hk => hk.2) (.slice Ao41 t313.length co41)) (fun _ h_ => h_.1)))); (case side2 => exact (Kd.R_reads' HO312.out).2.1); (case side3 => refine (Kd.R_reads' (e := 87) (base := w.heap.size) (ok := fun k_ => (((True ∧ some k_ ≠ (.slice Ao19 t289.length co19 : Value).ownBlock) ∧ some k_ ≠ (.slice Ao25 t296.length co25 : Value).ownBlock) ∧ some k_ ≠ (.slice Ao33 t305.length co33 : Value).ownBlock)) (n := t313.length) (c := co41) ?_).2.2; exact (by (with_reducible repeat (first | apply Kd.R_alloc | apply Kd.R_drewN | apply Kd.R_drew)); exact (Kd.R_mono (Kd.R_far (p := ⟨gb317, 2, none⟩) (Kd.R_far (p := ⟨gb317, 1, none⟩) (Kd.R_far (p := ⟨gb317, 0, none⟩) (Kd.R_types HO315.out BK317.out (by decide)) (fun _ hk => hk.2) (.string t309)) (fun _ hk => hk.2) (.slice Ao40 t310.length co40)) (fun _ hk => hk.2) (.slice Ao41 t313.length co41)) (fun _ h_ => h_.1)))); (case side4 => exact (Kd.R_reads' HO315.out).2.1); (case side5 => refine (Kd.R_reads' (e := 54) (base := w.heap.size) (ok := fun k_ => (((True ∧ some k_ ≠ (.slice Ao18 t286.length co18 : Value).ownBlock) ∧ some k_ ≠ (.slice Ao32 t302.length co32 : Value).ownBlock) ∧ some k_ ≠ (.slice Ao40 t310.length co40 : Value).ownBlock)) (n := t293.length) (c := co24) ?_).2.2; exact (by (with_reducible repeat (first | apply Kd.R_alloc | apply Kd.R_drewN | apply Kd.R_drew)); exact (Kd.R_mono (Kd.R_far (p := ⟨gb317, 2, none⟩) (Kd.R_far (p := ⟨gb317, 1, none⟩) (Kd.R_far (p := ⟨gb317, 0, none⟩) (Kd.R_types HO295.out BK317.out (by decide)) (fun _ hk => hk.2) (.string t309)) (fun _ hk => hk.2) (.slice Ao40 t310.length co40)) (fun _ hk => hk.2) (.slice Ao41 t313.length co41)) (fun _ h_ => h_.1)))); (case side6 => exact (Kd.R_reads' HO295.out).2.1); (case side7 => refine (Kd.R_reads' (e := 87) (base := w.heap.size) (ok := fun k_ => (((True ∧ some k_ ≠ (.slice Ao19 t289.length co19 : Value).ownBlock) ∧ some k_ ≠ (.slice Ao33 t305.length co33 : Value).ownBlock) ∧ some k_ ≠ (.slice Ao41 t313.length co41 : Value).ownBlock)) (n := t296.length) (c := co25) ?_).2.2; exact (by (with_reducible repeat (first | apply Kd.R_alloc | apply Kd.R_drewN | apply Kd.R_drew)); exact (Kd.R_mono (Kd.R_far (p := ⟨gb317, 2, none⟩) (Kd.R_far (p := ⟨gb317, 1, none⟩) (Kd.R_far (p := ⟨gb317, 0, none⟩) (Kd.R_types HO298.out BK317.out (by decide)) (fun _ hk => hk.2) (.string t309)) (fun _ hk => hk.2) (.slice Ao40 t310.length co40)) (fun _ hk => hk.2) (.slice Ao41 t313.length co41)) (fun _ h_ => h_.1)))); (case side8 => exact (Kd.R_reads' HO298.out).2.1); rintro e w51 ⟨rfl, hb⟩; refine ⟨_, rfl, ?_⟩; have n0_ := Aside0.mk (Kd.R_below (by (with_reducible repeat (first | apply Kd.R_alloc | apply Kd.R_drewN | apply Kd.R_drew)); exact (Kd.R_mono (Kd.R_far (p := ⟨gb317, 2, none⟩) (Kd.R_far (p := ⟨gb317, 1, none⟩) (Kd.R_far (p := ⟨gb317, 0, none⟩) (Kd.R_types HO288.out BK317.out (by decide)) (fun _ hk => hk.2) (.string t309)) (fun _ hk => hk.2) (.slice Ao40 t310.length co40)) (fun _ hk => hk.2) (.slice Ao41 t313.length co41)) (fun _ h_ => h_.1))) hb); have n1_ := Aside0.mk (Kd.R_below (by (with_reducible repeat (first | apply Kd.R_alloc | apply Kd.R_drewN | apply Kd.R_drew)); exact (Kd.R_mono (Kd.R_far (p := ⟨gb317, 2, none⟩) (Kd.R_far (p := ⟨gb317, 1, none⟩) (Kd.R_far (p := ⟨gb317, 0, none⟩) (Kd.R_types HO291.out BK317.out (by decide)) (fun _ hk => hk.2) (.string t309)) (fun _ hk => hk.2) (.slice Ao40 t310.length co40)) (fun _ hk => hk.2) (.slice Ao41 t313.length co41)) (fun _ h_ => h_.1))) hb); have n2_ := Aside0.mk (Kd.R_below (by (with_reducible repeat (first | apply Kd.R_alloc | apply Kd.R_drewN | apply Kd.R_drew)); exact (Kd.R_mono (Kd.R_far (p := ⟨gb317, 2, none⟩) (Kd.R_far (p := ⟨gb317, 1, none⟩) (Kd.R_far (p := ⟨gb317, 0, none⟩) (Kd.R_types HO295.out BK317.out (by decide)) (fun _ hk => hk.2) (.string t309)) (fun _ hk => hk.2) (.slice Ao40 t310.length co40)) (fun _ hk => hk.2) (.slice Ao41 t313.length co41)) (fun _ h_ => h_.1))) hb); have n3_ := Aside0.mk (Kd.R_below (by (with_reducible repeat (first | apply Kd.R_alloc | apply Kd.R_drewN | apply Kd.R_drew)); exact (Kd.R_mono (Kd.R_far (p := ⟨gb317, 2, none⟩) (Kd.R_far (p := ⟨gb317, 1, none⟩) (Kd.R_far (p := ⟨gb317, 0, none⟩) (Kd.R_types HO298.out BK317.out (by decide)) (fun _ hk => hk.2) (.string t309)) (fun _ hk => hk.2) (.slice Ao40 t310.length co40)) (fun _ hk => hk.2) (.slice Ao41 t313.length co41)) (fun _ h_ => h_.1))) hb); have n4_ := Aside0.mk (Kd.R_below (by (with_reducible repeat (first | apply Kd.R_alloc | apply Kd.R_drewN | apply Kd.R_drew)); exact (Kd.R_mono (Kd.R_far (p := ⟨gb317, 2, none⟩) (Kd.R_far (p := ⟨gb317, 1, none⟩) (Kd.R_far (p := ⟨gb317, 0, none⟩) (Kd.R_types HO304.out BK317.out (by decide)) (fun _ hk => hk.2) (.string t309)) (fun _ hk => hk.2) (.slice Ao40 t310.length co40)) (fun _ hk => hk.2) (.slice Ao41 t313.length co41)) (fun _ h_ => h_.1))) hb); have n5_ := Aside0.mk (Kd.R_below (by (with_reducible repeat (first | apply Kd.R_alloc | apply Kd.R_drewN | apply Kd.R_drew)); exact (Kd.R_mono (Kd.R_far (p := ⟨gb317, 2, none⟩) (Kd.R_far (p := ⟨gb317, 1, none⟩) (Kd.R_far (p := ⟨gb317, 0, none⟩) (Kd.R_types HO307.out BK317.out (by decide)) (fun _ hk => hk.2) (.string t309)) (fun _ hk => hk.2) (.slice Ao40 t310.length co40)) (fun _ hk => hk.2) (.slice Ao41 t313.length co41)) (fun _ h_ => h_.1))) hb); have n6_ := Aside0.mk (Kd.R_below (by (with_reducible repeat (first | apply Kd.R_alloc | apply Kd.R_drewN | apply Kd.R_drew)); exact (Kd.R_mono (Kd.R_far (p := ⟨gb317, 2, none⟩) (Kd.R_far (p := ⟨gb317, 1, none⟩) (Kd.R_far (p := ⟨gb317, 0, none⟩) (Kd.R_types HO312.out BK317.out (by decide)) (fun _ hk => hk.2) (.string t309)) (fun _ hk => hk.2) (.slice Ao40 t310.length co40)) (fun _ hk => hk.2) (.slice Ao41 t313.length co41)) (fun _ h_ => h_.1))) hb); have n7_ := Aside0.mk (Kd.R_below (by (with_reducible repeat (first | apply Kd.R_alloc | apply Kd.R_drewN | apply Kd.R_drew)); exact (Kd.R_mono (Kd.R_far (p := ⟨gb317, 2, none⟩) (Kd.R_far (p := ⟨gb317, 1, none⟩) (Kd.R_far (p := ⟨gb317, 0, none⟩) (Kd.R_types HO315.out BK317.out (by decide)) (fun _ hk => hk.2) (.string t309)) (fun _ hk => hk.2) (.slice Ao40 t310.length co40)) (fun _ hk => hk.2) (.slice Ao41 t313.length co41)) (fun _ h_ => h_.1))) hb); have n8_ := Aside0.mk (blk_below (g := gb283) (o := .cells #[.string a0_0, .slice A0_1 l0_1.length c0_1, .slice A0_2 l0_2.length c0_2] 39 (0, 0)) (by refine zP14 ?_; refine blk_far ?_ NB283_317.out _; refine zP14 ?_; refine blk_far ?_ NB283_317.out _; refine zP14 ?_; refine blk_far ?_ NB283_317.out _; refine zP14 ?_; exact BK283.out) hb); have n9_ := Aside0.mk (blk_below (g := gb300) (o := .cells #[.string t292, .slice Ao24 t293.length co24, .slice Ao25 t296.length co25] 45 (0, 0)) (by refine zP14 ?_; refine blk_far ?_ NB300_317.out _; refine zP14 ?_; refine blk_far ?_ NB300_317.out _; refine zP14 ?_; refine blk_far ?_ NB300_317.out _; refine zP14 ?_; exact BK300.out) hb); have n10_ := Aside0.mk (blk_below (g := gb308) (o := .cells #[.string t301, .slice Ao32 t302.length co32, .slice Ao33 t305.length co33] 45 (0, 0)) (by refine zP14 ?_; refine blk_far ?_ NB308_317.out _; refine zP14 ?_; refine blk_far ?_ NB308_317.out _; refine zP14 ?_; refine blk_far ?_ NB308_317.out _; refine zP14 ?_; exact BK308.out) hb); have n11_ := Aside0.mk (blk_below (g := gb317) (o := .cells #[.string t309, .slice Ao40 t310.length co40, .slice Ao41 t313.length co41] 45 (0, 0)) (by refine zP14 ?_; refine blk_put (cs := #[.string t309, .slice Ao40 t310.length co40, .slice none 0 0]) ?_ 2 _ rfl; refine zP14 ?_; refine blk_put (cs := #[.string t309, .slice none 0 0, .slice none 0 0]) ?_ 1 _ rfl; refine zP14 ?_; refine blk_put (cs := #[.string (⟨#[]⟩ : ByteArray), .slice none 0 0, .slice none 0 0]) ?_ 0 _ rfl; refine zP14 ?_; exact BK317.out) hb); have n12_ := Aside0.mk (below_step (zB14_4) hb); clear HO288; clear HO291; clear HO295; clear HO298; clear HO304; clear HO307; clear HO312; clear HO315; clear BK283; clear BK300; clear BK308; clear BK317; clear HB; have HO288 := n0_; have HO291 := n1_; have HO295 := n2_; have HO298 := n3_; have HO304 := n4_; have HO307 := n5_; have HO312 := n6_; have HO315 := n7_; have BK283 := n8_; have BK300 := n9_; have BK308 := n10_; have BK317 := n11_; have HB := n12_; clear n0_ n1_ n2_ n3_ n4_ n5_ n6_ n7_ n8_ n9_ n10_ n11_ n12_; (try clear hb); (try clear hb2); (try clear hk); (try clear hi)))
   go_meet
   case rel => exact ⟨_, ((t316 != t299)), (by first | rfl | (simp; done) | (simp [*]; done)), H', ⟨by first | omega | exact Nat.le_refl _⟩, ⟨by (with_reducible repeat (first | apply Kd.R_alloc | apply Kd.R_drewN | apply Kd.R_drew)); exact Kd.R_mono HO295.out (fun _ hk => ⟨hk.1.2, hk.2⟩)⟩, ⟨by (with_reducible repeat (first | apply Kd.R_alloc | apply Kd.R_drewN | apply Kd.R_drew)); exact Kd.R_mono HO298.out (fun _ hk => ⟨hk.1.2, hk.2⟩)⟩, ⟨by (with_reducible repeat (first | apply Kd.R_alloc | apply Kd.R_drewN | apply Kd.R_drew)); exact Kd.R_mono HO304.out (fun _ hk => ⟨hk.1.2, hk.2⟩)⟩, ⟨by (with_reducible repeat (first | apply Kd.R_alloc | apply Kd.R_drewN | apply Kd.R_drew)); exact Kd.R_mono HO307.out (fun _ hk => ⟨hk.1.2, hk.2⟩)⟩, ⟨by (with_reducible repeat (first | apply Kd.R_alloc | apply Kd.R_drewN | apply Kd.R_drew)); exact Kd.R_mono HO312.out (fun _ hk => ⟨hk.1.2, hk.2⟩)⟩, ⟨by (with_reducible repeat (first | apply Kd.R_alloc | apply Kd.R_drewN | apply Kd.R_drew)); exact Kd.R_mono HO315.out (fun _ hk => ⟨hk.1.2, hk.2⟩)⟩, ⟨zK14 BK283.out⟩, ⟨zK14 BK300.out⟩, ⟨zK14 BK308.out⟩, ⟨zK14 BK317.out⟩, ⟨zB14_4⟩⟩
  replace c43 := Bool.eq_false_iff.mpr c43
  subst c43
  have H1 : (laws_FnExactMoved.j0 k a1 t299 t316 true a0_0 l0_1 l0_2 t292 t293 t296 t301 t302 t305 t309 t310 t313) = some r := by rw [if_neg (show ¬ (false = true) by decide)] at H; exact H
  clear H
  have H := H1
  clear H1
  have H' := Aside0.mk H
  clear H
  have hnb52 := NB317_283.out
  have hnc52 := NB283_317.out
  have hnb53 := NB317_300.out
  have hnc53 := NB300_317.out
  have hnb54 := NB317_308.out
  have hnc54 := NB308_317.out
  obtain ⟨hcz55_0, hcz55_1, hcz55_2, hfz55_0, hfz55_1, hfz55_2⟩ := zc14_3 (w := w35) BK317.out
  have hnb56 := NB300_283.out
  have hnc56 := NB283_300.out
  have hnb57 := NB300_308.out
  have hnc57 := NB308_300.out
  obtain ⟨hcz58_0, hcz58_1, hcz58_2, hfz58_0, hfz58_1, hfz58_2⟩ := zc14_3 (w := w35) BK300.out
  go_wp2_with (first | ((with_reducible refine gate_callee (f := 28) rfl ?_); refine goesL_ (some 38) rfl rfl Try.func28 (by kernel_rfl) rfl #[.agg #[.string t309, .slice Ao40 t310.length co40, .slice Ao41 t313.length co41], .agg #[.string t292, .slice Ao24 t293.length co24, .slice Ao25 t296.length co25]] rfl zT14 ?_; (with_reducible refine (laws_eqPart.calls k t309 _ _ t310 _ _ t313 t292 _ _ t293 _ _ t296 false _ ?side1 ?side2 ?side3 ?side4 ?side5 ?side6 ?side7 ?side8 A42.out).mono ?_); (case side1 => refine (Kd.R_reads' (e := 54) (base := w.heap.size) (ok := fun k_ => (((True ∧ some k_ ≠ (.slice Ao18 t286.length co18 : Value).ownBlock) ∧ some k_ ≠ (.slice Ao24 t293.length co24 : Value).ownBlock) ∧ some k_ ≠ (.slice Ao32 t302.length co32 : Value).ownBlock)) (n := t310.length) (c := co40) ?_).2.2; exact (by (with_reducible repeat (first | apply Kd.R_alloc | apply Kd.R_drewN | apply Kd.R_drew)); exact (Kd.R_mono (Kd.R_far (p := ⟨gb317, 2, none⟩) (Kd.R_far (p := ⟨gb317, 1, none⟩) (Kd.R_far (p := ⟨gb317, 0, none⟩) (Kd.R_types HO312.out BK317.out (by decide)) (fun _ hk => hk.2) (.string t309)) (fun _ hk => hk.2) (.slice Ao40 t310.length co40)) (fun _ hk => hk.2) (.slice Ao41 t313.length co41)) (fun _ h_ => h_.1)))); (case side2 => exact (Kd.R_reads' HO312.out).2.1); (case side3 => refine (Kd.R_reads' (e := 87) (base := w.heap.size) (ok := fun k_ => (((True ∧ some k_ ≠ (.slice Ao19 t289.length co19 : Value).ownBlock) ∧ some k_ ≠ (.slice Ao25 t296.length co25 : Value).ownBlock) ∧ some k_ ≠ (.slice Ao33 t305.length co33 : Value).ownBlock)) (n := t313.length) (c := co41) ?_).2.2; exact (by (with_reducible repeat (first | apply Kd.R_alloc | apply Kd.R_drewN | apply Kd.R_drew)); exact (Kd.R_mono (Kd.R_far (p := ⟨gb317, 2, none⟩) (Kd.R_far (p := ⟨gb317, 1, none⟩) (Kd.R_far (p := ⟨gb317, 0, none⟩) (Kd.R_types HO315.out BK317.out (by decide)) (fun _ hk => hk.2) (.string t309)) (fun _ hk => hk.2) (.slice Ao40 t310.length co40)) (fun _ hk => hk.2) (.slice Ao41 t313.length co41)) (fun _ h_ => h_.1)))); (case side4 => exact (Kd.R_reads' HO315.out).2.1); (case side5 => refine (Kd.R_reads' (e := 54) (base := w.heap.size) (ok := fun k_ => (((True ∧ some k_ ≠ (.slice Ao18 t286.length co18 : Value).ownBlock) ∧ some k_ ≠ (.slice Ao32 t302.length co32 : Value).ownBlock) ∧ some k_ ≠ (.slice Ao40 t310.length co40 : Value).ownBlock)) (n := t293.length) (c := co24) ?_).2.2; exact (by (with_reducible repeat (first | apply Kd.R_alloc | apply Kd.R_drewN | apply Kd.R_drew)); exact (Kd.R_mono (Kd.R_far (p := ⟨gb317, 2, none⟩) (Kd.R_far (p := ⟨gb317, 1, none⟩) (Kd.R_far (p := ⟨gb317, 0, none⟩) (Kd.R_types HO295.out BK317.out (by decide)) (fun _ hk => hk.2) (.string t309)) (fun _ hk => hk.2) (.slice Ao40 t310.length co40)) (fun _ hk => hk.2) (.slice Ao41 t313.length co41)) (fun _ h_ => h_.1)))); (case side6 => exact (Kd.R_reads' HO295.out).2.1); (case side7 => refine (Kd.R_reads' (e := 87) (base := w.heap.size) (ok := fun k_ => (((True ∧ some k_ ≠ (.slice Ao19 t289.length co19 : Value).ownBlock) ∧ some k_ ≠ (.slice Ao33 t305.length co33 : Value).ownBlock) ∧ some k_ ≠ (.slice Ao41 t313.length co41 : Value).ownBlock)) (n := t296.length) (c := co25) ?_).2.2; exact (by (with_reducible repeat (first | apply Kd.R_alloc | apply Kd.R_drewN | apply Kd.R_drew)); exact (Kd.R_mono (Kd.R_far (p := ⟨gb317, 2, none⟩) (Kd.R_far (p := ⟨gb317, 1, none⟩) (Kd.R_far (p := ⟨gb317, 0, none⟩) (Kd.R_types HO298.out BK317.out (by decide)) (fun _ hk => hk.2) (.string t309)) (fun _ hk => hk.2) (.slice Ao40 t310.length co40)) (fun _ hk => hk.2) (.slice Ao41 t313.length co41)) (fun _ h_ => h_.1)))); (case side8 => exact (Kd.R_reads' HO298.out).2.1); rintro e w59 ⟨rfl, hb⟩; refine ⟨_, rfl, ?_⟩; have n0_ := Aside0.mk (Kd.R_below (by (with_reducible repeat (first | apply Kd.R_alloc | apply Kd.R_drewN | apply Kd.R_drew)); exact (Kd.R_mono (Kd.R_far (p := ⟨gb317, 2, none⟩) (Kd.R_far (p := ⟨gb317, 1, none⟩) (Kd.R_far (p := ⟨gb317, 0, none⟩) (Kd.R_types HO288.out BK317.out (by decide)) (fun _ hk => hk.2) (.string t309)) (fun _ hk => hk.2) (.slice Ao40 t310.length co40)) (fun _ hk => hk.2) (.slice Ao41 t313.length co41)) (fun _ h_ => h_.1))) hb); have n1_ := Aside0.mk (Kd.R_below (by (with_reducible repeat (first | apply Kd.R_alloc | apply Kd.R_drewN | apply Kd.R_drew)); exact (Kd.R_mono (Kd.R_far (p := ⟨gb317, 2, none⟩) (Kd.R_far (p := ⟨gb317, 1, none⟩) (Kd.R_far (p := ⟨gb317, 0, none⟩) (Kd.R_types HO291.out BK317.out (by decide)) (fun _ hk => hk.2) (.string t309)) (fun _ hk => hk.2) (.slice Ao40 t310.length co40)) (fun _ hk => hk.2) (.slice Ao41 t313.length co41)) (fun _ h_ => h_.1))) hb); have n2_ := Aside0.mk (Kd.R_below (by (with_reducible repeat (first | apply Kd.R_alloc | apply Kd.R_drewN | apply Kd.R_drew)); exact (Kd.R_mono (Kd.R_far (p := ⟨gb317, 2, none⟩) (Kd.R_far (p := ⟨gb317, 1, none⟩) (Kd.R_far (p := ⟨gb317, 0, none⟩) (Kd.R_types HO295.out BK317.out (by decide)) (fun _ hk => hk.2) (.string t309)) (fun _ hk => hk.2) (.slice Ao40 t310.length co40)) (fun _ hk => hk.2) (.slice Ao41 t313.length co41)) (fun _ h_ => h_.1))) hb); have n3_ := Aside0.mk (Kd.R_below (by (with_reducible repeat (first | apply Kd.R_alloc | apply Kd.R_drewN | apply Kd.R_drew)); exact (Kd.R_mono (Kd.R_far (p := ⟨gb317, 2, none⟩) (Kd.R_far (p := ⟨gb317, 1, none⟩) (Kd.R_far (p := ⟨gb317, 0, none⟩) (Kd.R_types HO298.out BK317.out (by decide)) (fun _ hk => hk.2) (.string t309)) (fun _ hk => hk.2) (.slice Ao40 t310.length co40)) (fun _ hk => hk.2) (.slice Ao41 t313.length co41)) (fun _ h_ => h_.1))) hb); have n4_ := Aside0.mk (Kd.R_below (by (with_reducible repeat (first | apply Kd.R_alloc | apply Kd.R_drewN | apply Kd.R_drew)); exact (Kd.R_mono (Kd.R_far (p := ⟨gb317, 2, none⟩) (Kd.R_far (p := ⟨gb317, 1, none⟩) (Kd.R_far (p := ⟨gb317, 0, none⟩) (Kd.R_types HO304.out BK317.out (by decide)) (fun _ hk => hk.2) (.string t309)) (fun _ hk => hk.2) (.slice Ao40 t310.length co40)) (fun _ hk => hk.2) (.slice Ao41 t313.length co41)) (fun _ h_ => h_.1))) hb); have n5_ := Aside0.mk (Kd.R_below (by (with_reducible repeat (first | apply Kd.R_alloc | apply Kd.R_drewN | apply Kd.R_drew)); exact (Kd.R_mono (Kd.R_far (p := ⟨gb317, 2, none⟩) (Kd.R_far (p := ⟨gb317, 1, none⟩) (Kd.R_far (p := ⟨gb317, 0, none⟩) (Kd.R_types HO307.out BK317.out (by decide)) (fun _ hk => hk.2) (.string t309)) (fun _ hk => hk.2) (.slice Ao40 t310.length co40)) (fun _ hk => hk.2) (.slice Ao41 t313.length co41)) (fun _ h_ => h_.1))) hb); have n6_ := Aside0.mk (Kd.R_below (by (with_reducible repeat (first | apply Kd.R_alloc | apply Kd.R_drewN | apply Kd.R_drew)); exact (Kd.R_mono (Kd.R_far (p := ⟨gb317, 2, none⟩) (Kd.R_far (p := ⟨gb317, 1, none⟩) (Kd.R_far (p := ⟨gb317, 0, none⟩) (Kd.R_types HO312.out BK317.out (by decide)) (fun _ hk => hk.2) (.string t309)) (fun _ hk => hk.2) (.slice Ao40 t310.length co40)) (fun _ hk => hk.2) (.slice Ao41 t313.length co41)) (fun _ h_ => h_.1))) hb); have n7_ := Aside0.mk (Kd.R_below (by (with_reducible repeat (first | apply Kd.R_alloc | apply Kd.R_drewN | apply Kd.R_drew)); exact (Kd.R_mono (Kd.R_far (p := ⟨gb317, 2, none⟩) (Kd.R_far (p := ⟨gb317, 1, none⟩) (Kd.R_far (p := ⟨gb317, 0, none⟩) (Kd.R_types HO315.out BK317.out (by decide)) (fun _ hk => hk.2) (.string t309)) (fun _ hk => hk.2) (.slice Ao40 t310.length co40)) (fun _ hk => hk.2) (.slice Ao41 t313.length co41)) (fun _ h_ => h_.1))) hb); have n8_ := Aside0.mk (blk_below (g := gb283) (o := .cells #[.string a0_0, .slice A0_1 l0_1.length c0_1, .slice A0_2 l0_2.length c0_2] 39 (0, 0)) (by refine zP14 ?_; refine blk_far ?_ NB283_317.out _; refine zP14 ?_; refine blk_far ?_ NB283_317.out _; refine zP14 ?_; refine blk_far ?_ NB283_317.out _; refine zP14 ?_; exact BK283.out) hb); have n9_ := Aside0.mk (blk_below (g := gb300) (o := .cells #[.string t292, .slice Ao24 t293.length co24, .slice Ao25 t296.length co25] 45 (0, 0)) (by refine zP14 ?_; refine blk_far ?_ NB300_317.out _; refine zP14 ?_; refine blk_far ?_ NB300_317.out _; refine zP14 ?_; refine blk_far ?_ NB300_317.out _; refine zP14 ?_; exact BK300.out) hb); have n10_ := Aside0.mk (blk_below (g := gb308) (o := .cells #[.string t301, .slice Ao32 t302.length co32, .slice Ao33 t305.length co33] 45 (0, 0)) (by refine zP14 ?_; refine blk_far ?_ NB308_317.out _; refine zP14 ?_; refine blk_far ?_ NB308_317.out _; refine zP14 ?_; refine blk_far ?_ NB308_317.out _; refine zP14 ?_; exact BK308.out) hb); have n11_ := Aside0.mk (blk_below (g := gb317) (o := .cells #[.string t309, .slice Ao40 t310.length co40, .slice Ao41 t313.length co41] 45 (0, 0)) (by refine zP14 ?_; refine blk_put (cs := #[.string t309, .slice Ao40 t310.length co40, .slice none 0 0]) ?_ 2 _ rfl; refine zP14 ?_; refine blk_put (cs := #[.string t309, .slice none 0 0, .slice none 0 0]) ?_ 1 _ rfl; refine zP14 ?_; refine blk_put (cs := #[.string (⟨#[]⟩ : ByteArray), .slice none 0 0, .slice none 0 0]) ?_ 0 _ rfl; refine zP14 ?_; exact BK317.out) hb); have n12_ := Aside0.mk (below_step (zB14_4) hb); clear HO288; clear HO291; clear HO295; clear HO298; clear HO304; clear HO307; clear HO312; clear HO315; clear BK283; clear BK300; clear BK308; clear BK317; clear HB; have HO288 := n0_; have HO291 := n1_; have HO295 := n2_; have HO298 := n3_; have HO304 := n4_; have HO307 := n5_; have HO312 := n6_; have HO315 := n7_; have BK283 := n8_; have BK300 := n9_; have BK308 := n10_; have BK317 := n11_; have HB := n12_; clear n0_ n1_ n2_ n3_ n4_ n5_ n6_ n7_ n8_ n9_ n10_ n11_ n12_; (try clear hb); (try clear hb2); (try clear hk); (try clear hi)))
  go_meet
  case rel => exact ⟨_, (true), (by first | rfl | (simp; done) | (simp [*]; done)), H', ⟨by first | omega | exact Nat.le_refl _⟩, ⟨by (with_reducible repeat (first | apply Kd.R_alloc | apply Kd.R_drewN | apply Kd.R_drew)); exact Kd.R_mono HO295.out (fun _ hk => ⟨hk.1.2, hk.2⟩)⟩, ⟨by (with_reducible repeat (first | apply Kd.R_alloc | apply Kd.R_drewN | apply Kd.R_drew)); exact Kd.R_mono HO298.out (fun _ hk => ⟨hk.1.2, hk.2⟩)⟩, ⟨by (with_reducible repeat (first | apply Kd.R_alloc | apply Kd.R_drewN | apply Kd.R_drew)); exact Kd.R_mono HO304.out (fun _ hk => ⟨hk.1.2, hk.2⟩)⟩, ⟨by (with_reducible repeat (first | apply Kd.R_alloc | apply Kd.R_drewN | apply Kd.R_drew)); exact Kd.R_mono HO307.out (fun _ hk => ⟨hk.1.2, hk.2⟩)⟩, ⟨by (with_reducible repeat (first | apply Kd.R_alloc | apply Kd.R_drewN | apply Kd.R_drew)); exact Kd.R_mono HO312.out (fun _ hk => ⟨hk.1.2, hk.2⟩)⟩, ⟨by (with_reducible repeat (first | apply Kd.R_alloc | apply Kd.R_drewN | apply Kd.R_drew)); exact Kd.R_mono HO315.out (fun _ hk => ⟨hk.1.2, hk.2⟩)⟩, ⟨zK14 BK283.out⟩, ⟨zK14 BK300.out⟩, ⟨zK14 BK308.out⟩, ⟨zK14 BK317.out⟩, ⟨zB14_4⟩⟩
 case rest =>
  clear HC12
  try clear c1
  try clear c2
  try clear p2
  try clear c3
  try clear c4
  try clear c4b0
  try clear c5
  try clear c12
  try clear c22
  try clear c24
  try clear c26
  try clear c28
  try clear c29
  try clear c30
  try clear c31
  try clear c36
  try clear c37
  try clear c38
  try clear c43
  try clear c44
  try clear c45
  try clear c46
  try clear c48
  try clear c49
  try clear c52
  try clear c53
  try clear c54
  try clear c56
  try clear c57
  try clear hcz14_0
  try clear hcz14_1
  try clear hcz14_2
  try clear hcz16_0
  try clear hcz16_1
  try clear hcz16_2
  try clear hcz23_0
  try clear hcz23_1
  try clear hcz23_2
  try clear hcz26_0
  try clear hcz26_1
  try clear hcz26_2
  try clear hcz31_0
  try clear hcz31_1
  try clear hcz31_2
  try clear hcz39_0
  try clear hcz39_1
  try clear hcz39_2
  try clear hcz47_0
  try clear hcz47_1
  try clear hcz47_2
  try clear hcz50_0
  try clear hcz50_1
  try clear hcz50_2
  try clear hcz55_0
  try clear hcz55_1
  try clear hcz55_2
  try clear hcz58_0
  try clear hcz58_1
  try clear hcz58_2
  try clear hcz6_0
  try clear hcz6_1
  try clear hcz6_2
  try clear hfz14_0
  try clear hfz14_1
  try clear hfz14_2
  try clear hfz16_0
  try clear hfz16_1
  try clear hfz16_2
  try clear hfz23_0
  try clear hfz23_1
  try clear hfz23_2
  try clear hfz26_0
  try clear hfz26_1
  try clear hfz26_2
  try clear hfz31_0
  try clear hfz31_1
  try clear hfz31_2
  try clear hfz39_0
  try clear hfz39_1
  try clear hfz39_2
  try clear hfz47_0
  try clear hfz47_1
  try clear hfz47_2
  try clear hfz50_0
  try clear hfz50_1
  try clear hfz50_2
  try clear hfz55_0
  try clear hfz55_1
  try clear hfz55_2
  try clear hfz58_0
  try clear hfz58_1
  try clear hfz58_2
  try clear hfz6_0
  try clear hfz6_1
  try clear hfz6_2
  obtain ⟨kq, x44_11, rfl, HA, HJ11, HO_301001, HO_301002, HO_309001, HO_309002, HO_318001, HO_318002, BK283, BK300, BK308, BK317, HB⟩ := hcut
  cases kq with
  | zero => exact absurd HA.out (by simp [laws_FnExactMoved.j0])
  | succ kj11 =>
   have H := HA.out
   clear HA
   simp only [laws_FnExactMoved.j0] at H
   by_cases c60 : x44_11 = true
   ·subst c60
    have H1 : (some false) = some r := by rw [if_pos rfl] at H; exact H
    clear H
    have H := H1
    clear H1
    obtain rfl := Option.some.inj H
    go_wp2
    go_ret
    exact ⟨zE14, zB14_4⟩
   replace c60 := Bool.eq_false_iff.mpr c60
   subst c60
   have H1 : ((laws_toPart.f kj11 a0_0 l0_1 l0_2).bind fun bt319 => ((laws_eqPart.f kj11 t301 t302 t305 bt319.1 bt319.2.1 bt319.2.2).bind fun t326 => (if t326 = true then ((laws_markPart.f kj11 t301 t302 t305 1).bind fun bt327 => (if bt327.1 < 0 then (laws_FnExactMoved.j1 kj11 a1 t299 true a0_0 l0_1 l0_2 t292 t293 t296 t309 t310 t313) else ((laws_eqPart.f kj11 t309 t310 t313 t292 t293 t296).bind fun t330 => (if t330 = true then (laws_FnExactMoved.j1 kj11 a1 t299 (t316 != t299) a0_0 l0_1 l0_2 t292 t293 t296 t309 t310 t313) else (laws_FnExactMoved.j1 kj11 a1 t299 true a0_0 l0_1 l0_2 t292 t293 t296 t309 t310 t313))))) else (some false)))) = some r := by rw [if_neg (show ¬ (false = true) by decide)] at H; exact H
   clear H
   have H := H1
   clear H1
   replace H := Option.bind_eq_some_iff.mp H
   obtain ⟨⟨t319, t320, t323⟩, A610, H⟩ := H
   replace H : ((laws_eqPart.f kj11 t301 t302 t305 t319 t320 t323).bind fun t326 => (if t326 = true then ((laws_markPart.f kj11 t301 t302 t305 1).bind fun bt327 => (if bt327.1 < 0 then (laws_FnExactMoved.j1 kj11 a1 t299 true a0_0 l0_1 l0_2 t292 t293 t296 t309 t310 t313) else ((laws_eqPart.f kj11 t309 t310 t313 t292 t293 t296).bind fun t330 => (if t330 = true then (laws_FnExactMoved.j1 kj11 a1 t299 (t316 != t299) a0_0 l0_1 l0_2 t292 t293 t296 t309 t310 t313) else (laws_FnExactMoved.j1 kj11 a1 t299 true a0_0 l0_1 l0_2 t292 t293 t296 t309 t310 t313))))) else (some false))) = some r := H
   have A61 := Aside0.mk A610
   clear A610
   replace H := Option.bind_eq_some_iff.mp H
   obtain ⟨t326, A620, H⟩ := H
   replace H : (if t326 = true then ((laws_markPart.f kj11 t301 t302 t305 1).bind fun bt327 => (if bt327.1 < 0 then (laws_FnExactMoved.j1 kj11 a1 t299 true a0_0 l0_1 l0_2 t292 t293 t296 t309 t310 t313) else ((laws_eqPart.f kj11 t309 t310 t313 t292 t293 t296).bind fun t330 => (if t330 = true then (laws_FnExactMoved.j1 kj11 a1 t299 (t316 != t299) a0_0 l0_1 l0_2 t292 t293 t296 t309 t310 t313) else (laws_FnExactMoved.j1 kj11 a1 t299 true a0_0 l0_1 l0_2 t292 t293 t296 t309 t310 t313))))) else (some false)) = some r := H
   have A62 := Aside0.mk A620
   clear A620
   by_cases c63 : t326 = true
   rotate_left
   ·replace c63 := Bool.eq_false_iff.mpr c63
    subst c63
    have H1 : (some false) = some r := by rw [if_neg (show ¬ (false = true) by decide)] at H; exact H
    clear H
    have H := H1
    clear H1
    obtain rfl := Option.some.inj H
    try go_wp2
    have n0_ := Aside0.mk (Kd.R_drew HO_301001.out)
    have n1_ := Aside0.mk (Kd.R_drew HO_301002.out)
    have n2_ := Aside0.mk (Kd.R_drew HO_309001.out)
    have n3_ := Aside0.mk (Kd.R_drew HO_309002.out)
    have n4_ := Aside0.mk (Kd.R_drew HO_318001.out)
    have n5_ := Aside0.mk (Kd.R_drew HO_318002.out)
    have n6_ := Aside0.mk (blk_drew BK283.out)
    have n7_ := Aside0.mk (blk_drew BK300.out)
    have n8_ := Aside0.mk (blk_drew BK308.out)
    have n9_ := Aside0.mk (blk_drew BK317.out)
    have n10_ := Aside0.mk (below_drew1 HB.out)
    clear HO_301001 HO_301002 HO_309001 HO_309002 HO_318001 HO_318002 BK283 BK300 BK308 BK317 HB
    have HO_301001 := n0_
    have HO_301002 := n1_
    have HO_309001 := n2_
    have HO_309002 := n3_
    have HO_318001 := n4_
    have HO_318002 := n5_
    have BK283 := n6_
    have BK300 := n7_
    have BK308 := n8_
    have BK317 := n9_
    have HB := n10_
    clear n0_ n1_ n2_ n3_ n4_ n5_ n6_ n7_ n8_ n9_ n10_
    refine start_ (n := 5) (S := fun w' => w'.cell? ⟨gb308, 0, none⟩ = some (.string t301) ∧ w'.cell? ⟨gb308, 1, none⟩ = some (.slice Ao32 t302.length co32) ∧ w'.cell? ⟨gb308, 2, none⟩ = some (.slice Ao33 t305.length co33) ∧ w'.cell? ⟨gb283, 0, none⟩ = some (.string a0_0) ∧ w'.cell? ⟨gb283, 1, none⟩ = some (.slice A0_1 l0_1.length c0_1) ∧ w'.cell? ⟨gb283, 2, none⟩ = some (.slice A0_2 l0_2.length c0_2)) (ds := []) #[false, false, false, false, false] (by kernel_rfl) rfl rfl ⟨(blk_cell BK308.out 0).trans rfl, (blk_cell BK308.out 1).trans rfl, (blk_cell BK308.out 2).trans rfl, (blk_cell BK283.out 0).trans rfl, (blk_cell BK283.out 1).trans rfl, (blk_cell BK283.out 2).trans rfl⟩ (fun hHeld => ?_)
    generalize wc.drew = w183 at HO_301001 HO_301002 HO_309001 HO_309002 HO_318001 HO_318002 BK283 BK300 BK308 BK317 HB hHeld ⊢
    refine take_ (i := 0) (N := some 45) (v := ?_) (a' := ?_) #[true, false, false, false, false] rfl rfl (by kernel_rfl) (fun _ _ _ h => h) (Or.inl ⟨by rfl, ?_⟩) hHeld ?_ ?_
    rotate_left
    ·rintro w' ⟨s0, s1, s2, s3, s4, s5⟩
     go_simp
     with_reducible rfl
    rotate_left
    ·exact zV14
    refine take_ (i := 1) (N := some 46) (v := ?_) (a' := ?_) #[true, true, false, false, false] rfl rfl (by kernel_rfl) (fun _ _ _ h => h) (Or.inl ⟨by rfl, ?_⟩) hHeld ?_ ?_
    rotate_left
    ·rintro w' ⟨s0, s1, s2, s3, s4, s5⟩
     go_simp
     with_reducible rfl
    rotate_left
    ·exact zV14
    refine one_ (i := 2) (N := some 47) #[true, true, true, false, false] rfl rfl (by kernel_rfl) (by decide) (fun K hK => ?_)
    refine goes_ Try.func26 (by kernel_rfl) rfl #[.agg #[.string a0_0, .slice A0_1 l0_1.length c0_1, .slice A0_2 l0_2.length c0_2]] (by rfl) rfl rfl zT14 ?_
    with_reducible refine (laws_toPart.calls kj11 a0_0 _ _ l0_1 _ _ l0_2 t319 t320 t323 _ ?side1 ?side2 ?side3 ?side4 A61.out).mono ?_
    (case side1 => exact zC14 (Kd.C_below HR0_1.out HB.out))
    (case side2 => exact HC0_1.out)
    (case side3 => exact zC14 (Kd.C_below HR0_2.out HB.out))
    (case side4 => exact HC0_2.out)
    rintro e w184 ⟨v321, v324, rfl, ho0, ho1, hb⟩
    refine ⟨_, rfl, ?_⟩
    have n0_ := Aside0.mk (Kd.R_elder' (zR14 HO_301001.out) (Kd.R_base ho0) hb)
    have n1_ := Aside0.mk (Kd.R_elder' (zR14 HO_301002.out) (Kd.R_base ho1) hb)
    have n2_ := Aside0.mk (Kd.R_elder' (zR14 HO_309001.out) (Kd.R_base ho0) hb)
    have n3_ := Aside0.mk (Kd.R_elder' (zR14 HO_309002.out) (Kd.R_base ho1) hb)
    have n4_ := Aside0.mk (Kd.R_elder' (zR14 HO_318001.out) (Kd.R_base ho0) hb)
    have n5_ := Aside0.mk (Kd.R_elder' (zR14 HO_318002.out) (Kd.R_base ho1) hb)
    have n6_ := Aside0.mk (Kd.R_lower (Kd.R_new' (Kd.R_new' (Kd.R_new' ho0 (Kd.R_lt (zR14 HO_301001.out))) (Kd.R_lt (zR14 HO_309001.out))) (Kd.R_lt (zR14 HO_318001.out))) (below_size (zB14_4)))
    have n7_ := Aside0.mk (Kd.R_lower (Kd.R_new' (Kd.R_new' (Kd.R_new' ho1 (Kd.R_lt (zR14 HO_301002.out))) (Kd.R_lt (zR14 HO_309002.out))) (Kd.R_lt (zR14 HO_318002.out))) (below_size (zB14_4)))
    have n8_ := Aside0.mk (zb14 BK283.out hb)
    have n9_ := Aside0.mk (zb14 BK300.out hb)
    have n10_ := Aside0.mk (zb14 BK308.out hb)
    have n11_ := Aside0.mk (zb14 BK317.out hb)
    have n12_ := Aside0.mk (below_step (zB14_4) hb)
    clear HO_301001 HO_301002 HO_309001 HO_309002 HO_318001 HO_318002 BK283 BK300 BK308 BK317 HB
    have HO_301001 := n0_
    have HO_301002 := n1_
    have HO_309001 := n2_
    have HO_309002 := n3_
    have HO_318001 := n4_
    have HO_318002 := n5_
    have HO322 := n6_
    have HO325 := n7_
    have BK283 := n8_
    have BK300 := n9_
    have BK308 := n10_
    have BK317 := n11_
    have HB := n12_
    clear n0_ n1_ n2_ n3_ n4_ n5_ n6_ n7_ n8_ n9_ n10_ n11_ n12_
    (try clear hb)
    (try clear hb2)
    (try clear hk)
    (try clear hi)
    (try clear ho0)
    (try clear ho1)
    obtain ⟨Ao185, co185, eo185⟩ := Kd.R_slice HO322.out
    (first | subst eo185 | (injection eo185 with f1_ f2_ f3_; have f4_ := f1_.symm; have f5_ := f3_.symm; clear f1_ f2_ f3_; subst f4_; subst f5_))
    obtain ⟨Ao186, co186, eo186⟩ := Kd.R_slice HO325.out
    (first | subst eo186 | (injection eo186 with f1_ f2_ f3_; have f4_ := f1_.symm; have f5_ := f3_.symm; clear f1_ f2_ f3_; subst f4_; subst f5_))
    refine hK.out _ _ ⟨(blk_cell BK308.out 0).trans rfl, (blk_cell BK308.out 1).trans rfl, (blk_cell BK308.out 2).trans rfl, (blk_cell BK283.out 0).trans rfl, (blk_cell BK283.out 1).trans rfl, (blk_cell BK283.out 2).trans rfl⟩ (fun hHeld => ?_)
    clear hK K
    refine norm_ (a' := ?_) ?_ ?_
    rotate_left
    ·show Act.put _ (some 47) _ = _
     simp only [Act.put, List.setIfInBounds_toArray, List.set_cons_zero, List.set_cons_succ, i64_w, i32_w]
     rfl
    refine one_ (i := 3) (N := some 48) #[true, true, true, true, false] rfl rfl (by kernel_rfl) (by decide) (fun K hK => ?_)
    refine goes_ Try.func28 (by kernel_rfl) rfl #[.agg #[.string t301, .slice Ao32 t302.length co32, .slice Ao33 t305.length co33], .agg #[.string t319, .slice Ao185 t320.length co185, .slice Ao186 t323.length co186]] (by rfl) rfl rfl zT14 ?_
    with_reducible refine (laws_eqPart.calls kj11 t301 _ _ t302 _ _ t305 t319 _ _ t320 _ _ t323 false _ ?side1 ?side2 ?side3 ?side4 ?side5 ?side6 ?side7 ?side8 A62.out).mono ?_
    (case side1 => exact zC14 (Kd.R_reads' HO_309001.out).2.2)
    (case side2 => exact (Kd.R_reads' HO_309001.out).2.1)
    (case side3 => exact zC14 (Kd.R_reads' HO_309002.out).2.2)
    (case side4 => exact (Kd.R_reads' HO_309002.out).2.1)
    (case side5 => exact zC14 (Kd.R_reads' HO322.out).2.2)
    (case side6 => exact (Kd.R_reads' HO322.out).2.1)
    (case side7 => exact zC14 (Kd.R_reads' HO325.out).2.2)
    (case side8 => exact (Kd.R_reads' HO325.out).2.1)
    rintro e w187 ⟨rfl, hb⟩
    refine ⟨_, rfl, ?_⟩
    have n0_ := Aside0.mk (Kd.R_below (zR14 HO_301001.out) hb)
    have n1_ := Aside0.mk (Kd.R_below (zR14 HO_301002.out) hb)
    have n2_ := Aside0.mk (Kd.R_below (zR14 HO_309001.out) hb)
    have n3_ := Aside0.mk (Kd.R_below (zR14 HO_309002.out) hb)
    have n4_ := Aside0.mk (Kd.R_below (zR14 HO_318001.out) hb)
    have n5_ := Aside0.mk (Kd.R_below (zR14 HO_318002.out) hb)
    have n6_ := Aside0.mk (Kd.R_below (zR14 HO322.out) hb)
    have n7_ := Aside0.mk (Kd.R_below (zR14 HO325.out) hb)
    have n8_ := Aside0.mk (zb14 BK283.out hb)
    have n9_ := Aside0.mk (zb14 BK300.out hb)
    have n10_ := Aside0.mk (zb14 BK308.out hb)
    have n11_ := Aside0.mk (zb14 BK317.out hb)
    have n12_ := Aside0.mk (below_step (zB14_4) hb)
    clear HO_301001 HO_301002 HO_309001 HO_309002 HO_318001 HO_318002 HO322 HO325 BK283 BK300 BK308 BK317 HB
    have HO_301001 := n0_
    have HO_301002 := n1_
    have HO_309001 := n2_
    have HO_309002 := n3_
    have HO_318001 := n4_
    have HO_318002 := n5_
    have HO322 := n6_
    have HO325 := n7_
    have BK283 := n8_
    have BK300 := n9_
    have BK308 := n10_
    have BK317 := n11_
    have HB := n12_
    clear n0_ n1_ n2_ n3_ n4_ n5_ n6_ n7_ n8_ n9_ n10_ n11_ n12_
    (try clear hb)
    (try clear hb2)
    (try clear hk)
    (try clear hi)
    refine hK.out _ _ ⟨(blk_cell BK308.out 0).trans rfl, (blk_cell BK308.out 1).trans rfl, (blk_cell BK308.out 2).trans rfl, (blk_cell BK283.out 0).trans rfl, (blk_cell BK283.out 1).trans rfl, (blk_cell BK283.out 2).trans rfl⟩ (fun hHeld => ?_)
    clear hK K
    refine norm_ (a' := ?_) ?_ ?_
    rotate_left
    ·show Act.put _ (some 48) _ = _
     simp only [Act.put, List.setIfInBounds_toArray, List.set_cons_zero, List.set_cons_succ, i64_w, i32_w]
     rfl
    refine pure_ (i := 4) (N := some 49) (v := ?_) (a' := ?_) #[true, true, true, true, true] rfl rfl (by kernel_rfl) (fun _ _ _ h => h) (Or.inl ⟨by rfl, ?_⟩) ?_ ?_
    rotate_left
    ·intro w'
     go_simp
     with_reducible rfl
    rotate_left
    ·exact zV14
    refine done_ (by kernel_rfl) ?_
    try go_wp2
    go_ret
    exact ⟨zE14, zB14_4⟩
   subst c63
   have H1 : ((laws_markPart.f kj11 t301 t302 t305 1).bind fun bt327 => (if bt327.1 < 0 then (laws_FnExactMoved.j1 kj11 a1 t299 true a0_0 l0_1 l0_2 t292 t293 t296 t309 t310 t313) else ((laws_eqPart.f kj11 t309 t310 t313 t292 t293 t296).bind fun t330 => (if t330 = true then (laws_FnExactMoved.j1 kj11 a1 t299 (t316 != t299) a0_0 l0_1 l0_2 t292 t293 t296 t309 t310 t313) else (laws_FnExactMoved.j1 kj11 a1 t299 true a0_0 l0_1 l0_2 t292 t293 t296 t309 t310 t313))))) = some r := by rw [if_pos rfl] at H; exact H
   clear H
   have H := H1
   clear H1
   replace H := Option.bind_eq_some_iff.mp H
   obtain ⟨⟨t327, t328, t329⟩, A640, H⟩ := H
   replace H : (if t327 < 0 then (laws_FnExactMoved.j1 kj11 a1 t299 true a0_0 l0_1 l0_2 t292 t293 t296 t309 t310 t313) else ((laws_eqPart.f kj11 t309 t310 t313 t292 t293 t296).bind fun t330 => (if t330 = true then (laws_FnExactMoved.j1 kj11 a1 t299 (t316 != t299) a0_0 l0_1 l0_2 t292 t293 t296 t309 t310 t313) else (laws_FnExactMoved.j1 kj11 a1 t299 true a0_0 l0_1 l0_2 t292 t293 t296 t309 t310 t313)))) = some r := H
   have A64 := Aside0.mk A640
   clear A640
   have HC65 := Aside0.mk H
   clear H
   try go_wp2
   have n0_ := Aside0.mk (Kd.R_drew HO_301001.out)
   have n1_ := Aside0.mk (Kd.R_drew HO_301002.out)
   have n2_ := Aside0.mk (Kd.R_drew HO_309001.out)
   have n3_ := Aside0.mk (Kd.R_drew HO_309002.out)
   have n4_ := Aside0.mk (Kd.R_drew HO_318001.out)
   have n5_ := Aside0.mk (Kd.R_drew HO_318002.out)
   have n6_ := Aside0.mk (blk_drew BK283.out)
   have n7_ := Aside0.mk (blk_drew BK300.out)
   have n8_ := Aside0.mk (blk_drew BK308.out)
   have n9_ := Aside0.mk (blk_drew BK317.out)
   have n10_ := Aside0.mk (below_drew1 HB.out)
   clear HO_301001 HO_301002 HO_309001 HO_309002 HO_318001 HO_318002 BK283 BK300 BK308 BK317 HB
   have HO_301001 := n0_
   have HO_301002 := n1_
   have HO_309001 := n2_
   have HO_309002 := n3_
   have HO_318001 := n4_
   have HO_318002 := n5_
   have BK283 := n6_
   have BK300 := n7_
   have BK308 := n8_
   have BK317 := n9_
   have HB := n10_
   clear n0_ n1_ n2_ n3_ n4_ n5_ n6_ n7_ n8_ n9_ n10_
   refine start_ (n := 5) (S := fun w' => w'.cell? ⟨gb308, 0, none⟩ = some (.string t301) ∧ w'.cell? ⟨gb308, 1, none⟩ = some (.slice Ao32 t302.length co32) ∧ w'.cell? ⟨gb308, 2, none⟩ = some (.slice Ao33 t305.length co33) ∧ w'.cell? ⟨gb283, 0, none⟩ = some (.string a0_0) ∧ w'.cell? ⟨gb283, 1, none⟩ = some (.slice A0_1 l0_1.length c0_1) ∧ w'.cell? ⟨gb283, 2, none⟩ = some (.slice A0_2 l0_2.length c0_2)) (ds := []) #[false, false, false, false, false] (by kernel_rfl) rfl rfl ⟨(blk_cell BK308.out 0).trans rfl, (blk_cell BK308.out 1).trans rfl, (blk_cell BK308.out 2).trans rfl, (blk_cell BK283.out 0).trans rfl, (blk_cell BK283.out 1).trans rfl, (blk_cell BK283.out 2).trans rfl⟩ (fun hHeld => ?_)
   generalize wc.drew = w66 at HO_301001 HO_301002 HO_309001 HO_309002 HO_318001 HO_318002 BK283 BK300 BK308 BK317 HB hHeld ⊢
   refine take_ (i := 0) (N := some 45) (v := ?_) (a' := ?_) #[true, false, false, false, false] rfl rfl (by kernel_rfl) (fun _ _ _ h => h) (Or.inl ⟨by rfl, ?_⟩) hHeld ?_ ?_
   rotate_left
   ·rintro w' ⟨s0, s1, s2, s3, s4, s5⟩
    go_simp
    with_reducible rfl
   rotate_left
   ·exact zV14
   refine take_ (i := 1) (N := some 46) (v := ?_) (a' := ?_) #[true, true, false, false, false] rfl rfl (by kernel_rfl) (fun _ _ _ h => h) (Or.inl ⟨by rfl, ?_⟩) hHeld ?_ ?_
   rotate_left
   ·rintro w' ⟨s0, s1, s2, s3, s4, s5⟩
    go_simp
    with_reducible rfl
   rotate_left
   ·exact zV14
   refine one_ (i := 2) (N := some 47) #[true, true, true, false, false] rfl rfl (by kernel_rfl) (by decide) (fun K hK => ?_)
   refine goes_ Try.func26 (by kernel_rfl) rfl #[.agg #[.string a0_0, .slice A0_1 l0_1.length c0_1, .slice A0_2 l0_2.length c0_2]] (by rfl) rfl rfl zT14 ?_
   with_reducible refine (laws_toPart.calls kj11 a0_0 _ _ l0_1 _ _ l0_2 t319 t320 t323 _ ?side1 ?side2 ?side3 ?side4 A61.out).mono ?_
   (case side1 => exact zC14 (Kd.C_below HR0_1.out HB.out))
   (case side2 => exact HC0_1.out)
   (case side3 => exact zC14 (Kd.C_below HR0_2.out HB.out))
   (case side4 => exact HC0_2.out)
   rintro e w67 ⟨v321, v324, rfl, ho0, ho1, hb⟩
   refine ⟨_, rfl, ?_⟩
   have n0_ := Aside0.mk (Kd.R_elder' (zR14 HO_301001.out) (Kd.R_base ho0) hb)
   have n1_ := Aside0.mk (Kd.R_elder' (zR14 HO_301002.out) (Kd.R_base ho1) hb)
   have n2_ := Aside0.mk (Kd.R_elder' (zR14 HO_309001.out) (Kd.R_base ho0) hb)
   have n3_ := Aside0.mk (Kd.R_elder' (zR14 HO_309002.out) (Kd.R_base ho1) hb)
   have n4_ := Aside0.mk (Kd.R_elder' (zR14 HO_318001.out) (Kd.R_base ho0) hb)
   have n5_ := Aside0.mk (Kd.R_elder' (zR14 HO_318002.out) (Kd.R_base ho1) hb)
   have n6_ := Aside0.mk (Kd.R_lower (Kd.R_new' (Kd.R_new' (Kd.R_new' ho0 (Kd.R_lt (zR14 HO_301001.out))) (Kd.R_lt (zR14 HO_309001.out))) (Kd.R_lt (zR14 HO_318001.out))) (below_size (zB14_4)))
   have n7_ := Aside0.mk (Kd.R_lower (Kd.R_new' (Kd.R_new' (Kd.R_new' ho1 (Kd.R_lt (zR14 HO_301002.out))) (Kd.R_lt (zR14 HO_309002.out))) (Kd.R_lt (zR14 HO_318002.out))) (below_size (zB14_4)))
   have n8_ := Aside0.mk (zb14 BK283.out hb)
   have n9_ := Aside0.mk (zb14 BK300.out hb)
   have n10_ := Aside0.mk (zb14 BK308.out hb)
   have n11_ := Aside0.mk (zb14 BK317.out hb)
   have n12_ := Aside0.mk (below_step (zB14_4) hb)
   clear HO_301001 HO_301002 HO_309001 HO_309002 HO_318001 HO_318002 BK283 BK300 BK308 BK317 HB
   have HO_301001 := n0_
   have HO_301002 := n1_
   have HO_309001 := n2_
   have HO_309002 := n3_
   have HO_318001 := n4_
   have HO_318002 := n5_
   have HO322 := n6_
   have HO325 := n7_
   have BK283 := n8_
   have BK300 := n9_
   have BK308 := n10_
   have BK317 := n11_
   have HB := n12_
   clear n0_ n1_ n2_ n3_ n4_ n5_ n6_ n7_ n8_ n9_ n10_ n11_ n12_
   (try clear hb)
   (try clear hb2)
   (try clear hk)
   (try clear hi)
   (try clear ho0)
   (try clear ho1)
   obtain ⟨Ao68, co68, eo68⟩ := Kd.R_slice HO322.out
   (first | subst eo68 | (injection eo68 with f1_ f2_ f3_; have f4_ := f1_.symm; have f5_ := f3_.symm; clear f1_ f2_ f3_; subst f4_; subst f5_))
   obtain ⟨Ao69, co69, eo69⟩ := Kd.R_slice HO325.out
   (first | subst eo69 | (injection eo69 with f1_ f2_ f3_; have f4_ := f1_.symm; have f5_ := f3_.symm; clear f1_ f2_ f3_; subst f4_; subst f5_))
   refine hK.out _ _ ⟨(blk_cell BK308.out 0).trans rfl, (blk_cell BK308.out 1).trans rfl, (blk_cell BK308.out 2).trans rfl, (blk_cell BK283.out 0).trans rfl, (blk_cell BK283.out 1).trans rfl, (blk_cell BK283.out 2).trans rfl⟩ (fun hHeld => ?_)
   clear hK K
   refine norm_ (a' := ?_) ?_ ?_
   rotate_left
   ·show Act.put _ (some 47) _ = _
    simp only [Act.put, List.setIfInBounds_toArray, List.set_cons_zero, List.set_cons_succ, i64_w, i32_w]
    rfl
   refine one_ (i := 3) (N := some 48) #[true, true, true, true, false] rfl rfl (by kernel_rfl) (by decide) (fun K hK => ?_)
   refine goes_ Try.func28 (by kernel_rfl) rfl #[.agg #[.string t301, .slice Ao32 t302.length co32, .slice Ao33 t305.length co33], .agg #[.string t319, .slice Ao68 t320.length co68, .slice Ao69 t323.length co69]] (by rfl) rfl rfl zT14 ?_
   with_reducible refine (laws_eqPart.calls kj11 t301 _ _ t302 _ _ t305 t319 _ _ t320 _ _ t323 true _ ?side1 ?side2 ?side3 ?side4 ?side5 ?side6 ?side7 ?side8 A62.out).mono ?_
   (case side1 => exact zC14 (Kd.R_reads' HO_309001.out).2.2)
   (case side2 => exact (Kd.R_reads' HO_309001.out).2.1)
   (case side3 => exact zC14 (Kd.R_reads' HO_309002.out).2.2)
   (case side4 => exact (Kd.R_reads' HO_309002.out).2.1)
   (case side5 => exact zC14 (Kd.R_reads' HO322.out).2.2)
   (case side6 => exact (Kd.R_reads' HO322.out).2.1)
   (case side7 => exact zC14 (Kd.R_reads' HO325.out).2.2)
   (case side8 => exact (Kd.R_reads' HO325.out).2.1)
   rintro e w70 ⟨rfl, hb⟩
   refine ⟨_, rfl, ?_⟩
   have n0_ := Aside0.mk (Kd.R_below (zR14 HO_301001.out) hb)
   have n1_ := Aside0.mk (Kd.R_below (zR14 HO_301002.out) hb)
   have n2_ := Aside0.mk (Kd.R_below (zR14 HO_309001.out) hb)
   have n3_ := Aside0.mk (Kd.R_below (zR14 HO_309002.out) hb)
   have n4_ := Aside0.mk (Kd.R_below (zR14 HO_318001.out) hb)
   have n5_ := Aside0.mk (Kd.R_below (zR14 HO_318002.out) hb)
   have n6_ := Aside0.mk (Kd.R_below (zR14 HO322.out) hb)
   have n7_ := Aside0.mk (Kd.R_below (zR14 HO325.out) hb)
   have n8_ := Aside0.mk (zb14 BK283.out hb)
   have n9_ := Aside0.mk (zb14 BK300.out hb)
   have n10_ := Aside0.mk (zb14 BK308.out hb)
   have n11_ := Aside0.mk (zb14 BK317.out hb)
   have n12_ := Aside0.mk (below_step (zB14_4) hb)
   clear HO_301001 HO_301002 HO_309001 HO_309002 HO_318001 HO_318002 HO322 HO325 BK283 BK300 BK308 BK317 HB
   have HO_301001 := n0_
   have HO_301002 := n1_
   have HO_309001 := n2_
   have HO_309002 := n3_
   have HO_318001 := n4_
   have HO_318002 := n5_
   have HO322 := n6_
   have HO325 := n7_
   have BK283 := n8_
   have BK300 := n9_
   have BK308 := n10_
   have BK317 := n11_
   have HB := n12_
   clear n0_ n1_ n2_ n3_ n4_ n5_ n6_ n7_ n8_ n9_ n10_ n11_ n12_
   (try clear hb)
   (try clear hb2)
   (try clear hk)
   (try clear hi)
   refine hK.out _ _ ⟨(blk_cell BK308.out 0).trans rfl, (blk_cell BK308.out 1).trans rfl, (blk_cell BK308.out 2).trans rfl, (blk_cell BK283.out 0).trans rfl, (blk_cell BK283.out 1).trans rfl, (blk_cell BK283.out 2).trans rfl⟩ (fun hHeld => ?_)
   clear hK K
   refine norm_ (a' := ?_) ?_ ?_
   rotate_left
   ·show Act.put _ (some 48) _ = _
    simp only [Act.put, List.setIfInBounds_toArray, List.set_cons_zero, List.set_cons_succ, i64_w, i32_w]
    rfl
   refine pure_ (i := 4) (N := some 49) (v := ?_) (a' := ?_) #[true, true, true, true, true] rfl rfl (by kernel_rfl) (fun _ _ _ h => h) (Or.inl ⟨by rfl, ?_⟩) ?_ ?_
   rotate_left
   ·intro w'
    go_simp
    with_reducible rfl
   rotate_left
   ·exact zV14
   refine done_ (by kernel_rfl) ?_
   have hnb71 := NB308_283.out
   have hnc71 := NB283_308.out
   have hnb72 := NB308_300.out
   have hnc72 := NB300_308.out
   have hnb73 := NB308_317.out
   have hnc73 := NB317_308.out
   obtain ⟨hcz74_0, hcz74_1, hcz74_2, hfz74_0, hfz74_1, hfz74_2⟩ := zc14_3 (w := w70) BK308.out
   go_upto_region 14 with (first | ((with_reducible refine gate_callee (f := 60) rfl ?_); refine goesL_ (some 52) rfl rfl Try.func60 (by kernel_rfl) rfl #[.agg #[.string t301, .slice Ao32 t302.length co32, .slice Ao33 t305.length co33], .int .i64 1] rfl zT14 ?_; (with_reducible refine (laws_markPart.calls kj11 t301 (fun k_ => some k_ = (.slice Ao32 t302.length co32 : Value).ownBlock) (.slice Ao32 t302.length co32) t302 (fun k_ => some k_ = (.slice Ao33 t305.length co33 : Value).ownBlock) (.slice Ao33 t305.length co33) t305 1 t327 t328 t329 w _ ?side1 ?side2 ?side3 A64.out).mono ?_); (case side1 => repeat (first | (with_reducible first | exact HB.out | apply below_alloc | apply pw_below_drewN | apply below_drew1 | refine below_set ?_ GE283.out | refine below_set ?_ GE300.out | refine below_set ?_ GE308.out | refine below_set ?_ GE317.out) | exact HB.out)); (case side2 => exact Kd.R_tight rfl HO_309001.out); (case side3 => exact Kd.R_tight rfl HO_309002.out); rintro e w75 ⟨rfl, hy0, hy1, hb, hkp⟩; refine ⟨_, rfl, ?_⟩; have n0_ := Aside0.mk (Kd.R_mono (ok' := fun k_ => some k_ ≠ (.slice Ao32 t302.length co32 : Value).ownBlock ∧ some k_ ≠ (.slice Ao40 t310.length co40 : Value).ownBlock ∧ some k_ ≠ (.slice Ao68 t320.length co68 : Value).ownBlock) (Kd.R_keptB ((Kd.R_apart' HO_301001.out (Kd.R_typed HO_309002.out) (by decide))) hkp (fun k_ hk_ hs_ => Or.elim hs_ (fun e_ => (hk_.1.1.1) e_) (fun e_ => (hk_.2) e_))) (fun k_ hk_ => ⟨hk_.1.1.1.1, hk_.1.1.1.2, hk_.1.1.2⟩)); have n1_ := Aside0.mk (Kd.R_mono (ok' := fun k_ => some k_ ≠ (.slice Ao33 t305.length co33 : Value).ownBlock ∧ some k_ ≠ (.slice Ao41 t313.length co41 : Value).ownBlock ∧ some k_ ≠ (.slice Ao69 t323.length co69 : Value).ownBlock) (Kd.R_keptB ((Kd.R_apart' HO_301002.out (Kd.R_typed HO_309001.out) (by decide))) hkp (fun k_ hk_ hs_ => Or.elim hs_ (fun e_ => (hk_.2) e_) (fun e_ => (hk_.1.1.1) e_))) (fun k_ hk_ => ⟨hk_.1.1.1.1, hk_.1.1.1.2, hk_.1.1.2⟩)); have n2_ := Aside0.mk (Kd.R_reok rfl hy0 (fun k_ e_ => HO_309001.out.1 k_ e_)); have n3_ := Aside0.mk (Kd.R_reok rfl hy1 (fun k_ e_ => HO_309002.out.1 k_ e_)); have n4_ := Aside0.mk (Kd.R_mono (ok' := fun k_ => some k_ ≠ (.slice Ao24 t293.length co24 : Value).ownBlock ∧ some k_ ≠ (.slice Ao32 t302.length co32 : Value).ownBlock ∧ some k_ ≠ (.slice Ao68 t320.length co68 : Value).ownBlock) (Kd.R_keptB ((Kd.R_apart' HO_318001.out (Kd.R_typed HO_309002.out) (by decide))) hkp (fun k_ hk_ hs_ => Or.elim hs_ (fun e_ => (hk_.1.1.2) e_) (fun e_ => (hk_.2) e_))) (fun k_ hk_ => ⟨hk_.1.1.1.1, hk_.1.1.1.2, hk_.1.1.2⟩)); have n5_ := Aside0.mk (Kd.R_mono (ok' := fun k_ => some k_ ≠ (.slice Ao25 t296.length co25 : Value).ownBlock ∧ some k_ ≠ (.slice Ao33 t305.length co33 : Value).ownBlock ∧ some k_ ≠ (.slice Ao69 t323.length co69 : Value).ownBlock) (Kd.R_keptB ((Kd.R_apart' HO_318002.out (Kd.R_typed HO_309001.out) (by decide))) hkp (fun k_ hk_ hs_ => Or.elim hs_ (fun e_ => (hk_.2) e_) (fun e_ => (hk_.1.1.2) e_))) (fun k_ hk_ => ⟨hk_.1.1.1.1, hk_.1.1.1.2, hk_.1.1.2⟩)); have n6_ := Aside0.mk (blk_kept (zK14 BK283.out) hkp (fun hs_ => Or.elim hs_ (fun e_ => (fun e_ => (Kd.R_ne HO_309001.out BK283.out (by decide)) e_) e_) (fun e_ => (fun e_ => (Kd.R_ne HO_309002.out BK283.out (by decide)) e_) e_))); have n7_ := Aside0.mk (blk_kept (zK14 BK300.out) hkp (fun hs_ => Or.elim hs_ (fun e_ => (fun e_ => (Kd.R_ne HO_309001.out BK300.out (by decide)) e_) e_) (fun e_ => (fun e_ => (Kd.R_ne HO_309002.out BK300.out (by decide)) e_) e_))); have n8_ := Aside0.mk (blk_kept (zK14 BK308.out) hkp (fun hs_ => Or.elim hs_ (fun e_ => (fun e_ => (Kd.R_ne HO_309001.out BK308.out (by decide)) e_) e_) (fun e_ => (fun e_ => (Kd.R_ne HO_309002.out BK308.out (by decide)) e_) e_))); have n9_ := Aside0.mk (blk_kept (zK14 BK317.out) hkp (fun hs_ => Or.elim hs_ (fun e_ => (fun e_ => (Kd.R_ne HO_309001.out BK317.out (by decide)) e_) e_) (fun e_ => (fun e_ => (Kd.R_ne HO_309002.out BK317.out (by decide)) e_) e_))); have n10_ := Aside0.mk (Kd.R_mono (ok' := fun k_ => some k_ ≠ (.slice Ao24 t293.length co24 : Value).ownBlock ∧ some k_ ≠ (.slice Ao32 t302.length co32 : Value).ownBlock ∧ some k_ ≠ (.slice Ao40 t310.length co40 : Value).ownBlock) (Kd.R_keptB ((Kd.R_apart' HO322.out (Kd.R_typed HO_309002.out) (by decide))) hkp (fun k_ hk_ hs_ => Or.elim hs_ (fun e_ => (hk_.1.1.2) e_) (fun e_ => (hk_.2) e_))) (fun k_ hk_ => ⟨hk_.1.1.1.1.2, hk_.1.1.1.2, hk_.1.1.2⟩)); have n11_ := Aside0.mk (Kd.R_mono (ok' := fun k_ => some k_ ≠ (.slice Ao25 t296.length co25 : Value).ownBlock ∧ some k_ ≠ (.slice Ao33 t305.length co33 : Value).ownBlock ∧ some k_ ≠ (.slice Ao41 t313.length co41 : Value).ownBlock) (Kd.R_keptB ((Kd.R_apart' HO325.out (Kd.R_typed HO_309001.out) (by decide))) hkp (fun k_ hk_ hs_ => Or.elim hs_ (fun e_ => (hk_.2) e_) (fun e_ => (hk_.1.1.2) e_))) (fun k_ hk_ => ⟨hk_.1.1.1.1.2, hk_.1.1.1.2, hk_.1.1.2⟩)); have n12_ := Aside0.mk (hb); clear HO_301001; clear HO_301002; clear HO_309001; clear HO_309002; clear HO_318001; clear HO_318002; clear BK283; clear BK300; clear BK308; clear BK317; clear HO322; clear HO325; clear HB; have HO_301001 := n0_; have HO_301002 := n1_; have HO_309001 := n2_; have HO_309002 := n3_; have HO_318001 := n4_; have HO_318002 := n5_; have BK283 := n6_; have BK300 := n7_; have BK308 := n8_; have BK317 := n9_; have HO322 := n10_; have HO325 := n11_; have HB := n12_; clear n0_ n1_ n2_ n3_ n4_ n5_ n6_ n7_ n8_ n9_ n10_ n11_ n12_; (try clear hb); (try clear hkp); (try clear hy0); (try clear hy1)))
   (try simp only [Act.put, List.setIfInBounds_toArray, List.set_cons_zero, List.set_cons_succ])
   go_cut [65] (fun v65 wc => ∃ (kq : Nat) (x65_64 : Bool), v65 = .bool x65_64 ∧ Aside0 (laws_FnExactMoved.j1 kq a1 t299 x65_64 a0_0 l0_1 l0_2 t292 t293 t296 t309 t310 t313 = some r) ∧ Aside0 (kq ≤ kj11) ∧ Aside0 (Kd.R k54 54 wc w.heap.size (fun k_ => some k_ ≠ ((.slice Ao32 t302.length co32) : Value).ownBlock ∧ some k_ ≠ ((.slice Ao40 t310.length co40) : Value).ownBlock) (.slice Ao24 t293.length co24) t293) ∧ Aside0 (Kd.R k87 87 wc w.heap.size (fun k_ => some k_ ≠ ((.slice Ao33 t305.length co33) : Value).ownBlock ∧ some k_ ≠ ((.slice Ao41 t313.length co41) : Value).ownBlock) (.slice Ao25 t296.length co25) t296) ∧ Aside0 (Kd.R k54 54 wc w.heap.size (fun k_ => some k_ ≠ ((.slice Ao24 t293.length co24) : Value).ownBlock ∧ some k_ ≠ ((.slice Ao40 t310.length co40) : Value).ownBlock) (.slice Ao32 t302.length co32) t328) ∧ Aside0 (Kd.R k87 87 wc w.heap.size (fun k_ => some k_ ≠ ((.slice Ao25 t296.length co25) : Value).ownBlock ∧ some k_ ≠ ((.slice Ao41 t313.length co41) : Value).ownBlock) (.slice Ao33 t305.length co33) t329) ∧ Aside0 (Kd.R k54 54 wc w.heap.size (fun k_ => some k_ ≠ ((.slice Ao24 t293.length co24) : Value).ownBlock ∧ some k_ ≠ ((.slice Ao32 t302.length co32) : Value).ownBlock) (.slice Ao40 t310.length co40) t310) ∧ Aside0 (Kd.R k87 87 wc w.heap.size (fun k_ => some k_ ≠ ((.slice Ao25 t296.length co25) : Value).ownBlock ∧ some k_ ≠ ((.slice Ao33 t305.length co33) : Value).ownBlock) (.slice Ao41 t313.length co41) t313) ∧ Aside0 (wc.heap[gb283]? = some (.cells #[.string a0_0, (.slice A0_1 l0_1.length c0_1), (.slice A0_2 l0_2.length c0_2)] 39 (0, 0))) ∧ Aside0 (wc.heap[gb300]? = some (.cells #[.string t292, (.slice Ao24 t293.length co24), (.slice Ao25 t296.length co25)] 45 (0, 0))) ∧ Aside0 (wc.heap[gb308]? = some (.cells #[.string t301, (.slice Ao32 t302.length co32), (.slice Ao33 t305.length co33)] 45 (0, 0))) ∧ Aside0 (wc.heap[gb317]? = some (.cells #[.string t309, (.slice Ao40 t310.length co40), (.slice Ao41 t313.length co41)] 45 (0, 0))) ∧ Aside0 (Below w.heap.size w wc))
   case first =>
    have H := HC65.out
    clear HC65
    by_cases c76 : t327 < 0
    ·rw [if_pos c76] at H
     have c76b0 : decide (t327 < 0) = true := decide_eq_true c76
     clear c76
     (first | rw [c76b0] | (simp only [i64_w, i32_w]; rw [c76b0]) | skip)
     have H' := Aside0.mk H
     clear H
     go_wp2
     go_meet
     case rel => exact ⟨_, (true), (by first | rfl | (simp; done) | (simp [*]; done)), H', ⟨by have := HJ11.out; first | omega | exact Nat.le_refl _⟩, ⟨by (with_reducible repeat (first | apply Kd.R_alloc | apply Kd.R_drewN | apply Kd.R_drew)); exact Kd.R_mono HO_301001.out (fun _ hk => ⟨hk.1, hk.2.1⟩)⟩, ⟨by (with_reducible repeat (first | apply Kd.R_alloc | apply Kd.R_drewN | apply Kd.R_drew)); exact Kd.R_mono HO_301002.out (fun _ hk => ⟨hk.1, hk.2.1⟩)⟩, ⟨by (with_reducible repeat (first | apply Kd.R_alloc | apply Kd.R_drewN | apply Kd.R_drew)); exact Kd.R_mono HO_309001.out (fun _ hk => ⟨hk.1.1, hk.1.2⟩)⟩, ⟨by (with_reducible repeat (first | apply Kd.R_alloc | apply Kd.R_drewN | apply Kd.R_drew)); exact Kd.R_mono HO_309002.out (fun _ hk => ⟨hk.1.1, hk.1.2⟩)⟩, ⟨by (with_reducible repeat (first | apply Kd.R_alloc | apply Kd.R_drewN | apply Kd.R_drew)); exact Kd.R_mono HO_318001.out (fun _ hk => ⟨hk.1, hk.2.1⟩)⟩, ⟨by (with_reducible repeat (first | apply Kd.R_alloc | apply Kd.R_drewN | apply Kd.R_drew)); exact Kd.R_mono HO_318002.out (fun _ hk => ⟨hk.1, hk.2.1⟩)⟩, ⟨zK14 BK283.out⟩, ⟨zK14 BK300.out⟩, ⟨zK14 BK308.out⟩, ⟨zK14 BK317.out⟩, ⟨zB14_4⟩⟩
    rw [if_neg c76] at H
    have c76b0 : decide (t327 < 0) = false := decide_eq_false c76
    clear c76
    (first | rw [c76b0] | (simp only [i64_w, i32_w]; rw [c76b0]) | skip)
    replace H := Option.bind_eq_some_iff.mp H
    obtain ⟨t330, A770, H⟩ := H
    replace H : (if t330 = true then (laws_FnExactMoved.j1 kj11 a1 t299 (t316 != t299) a0_0 l0_1 l0_2 t292 t293 t296 t309 t310 t313) else (laws_FnExactMoved.j1 kj11 a1 t299 true a0_0 l0_1 l0_2 t292 t293 t296 t309 t310 t313)) = some r := H
    have A77 := Aside0.mk A770
    clear A770
    by_cases c78 : t330 = true
    ·subst c78
     have H1 : (laws_FnExactMoved.j1 kj11 a1 t299 (t316 != t299) a0_0 l0_1 l0_2 t292 t293 t296 t309 t310 t313) = some r := by rw [if_pos rfl] at H; exact H
     clear H
     have H := H1
     clear H1
     have H' := Aside0.mk H
     clear H
     have hnb79 := NB317_283.out
     have hnc79 := NB283_317.out
     have hnb80 := NB317_300.out
     have hnc80 := NB300_317.out
     have hnb81 := NB317_308.out
     have hnc81 := NB308_317.out
     obtain ⟨hcz82_0, hcz82_1, hcz82_2, hfz82_0, hfz82_1, hfz82_2⟩ := zc14_3 (w := w75) BK317.out
     have hnb83 := NB300_283.out
     have hnc83 := NB283_300.out
     have hnb84 := NB300_308.out
     have hnc84 := NB308_300.out
     obtain ⟨hcz85_0, hcz85_1, hcz85_2, hfz85_0, hfz85_1, hfz85_2⟩ := zc14_3 (w := w75) BK300.out
     go_wp2_with (first | (go_at_call 28; (with_reducible refine (laws_eqPart.calls kj11 t309 _ _ t310 _ _ t313 t292 _ _ t293 _ _ t296 true _ ?side1 ?side2 ?side3 ?side4 ?side5 ?side6 ?side7 ?side8 A77.out).mono ?_); (case side1 => exact zC14 (Kd.R_reads' HO_318001.out).2.2); (case side2 => exact (Kd.R_reads' HO_318001.out).2.1); (case side3 => exact zC14 (Kd.R_reads' HO_318002.out).2.2); (case side4 => exact (Kd.R_reads' HO_318002.out).2.1); (case side5 => exact zC14 (Kd.R_reads' HO_301001.out).2.2); (case side6 => exact (Kd.R_reads' HO_301001.out).2.1); (case side7 => exact zC14 (Kd.R_reads' HO_301002.out).2.2); (case side8 => exact (Kd.R_reads' HO_301002.out).2.1); rintro e w86 ⟨rfl, hb⟩; have n0_ := Aside0.mk (Kd.R_below (zR14 HO_301001.out) hb); have n1_ := Aside0.mk (Kd.R_below (zR14 HO_301002.out) hb); have n2_ := Aside0.mk (Kd.R_below (zR14 HO_309001.out) hb); have n3_ := Aside0.mk (Kd.R_below (zR14 HO_309002.out) hb); have n4_ := Aside0.mk (Kd.R_below (zR14 HO_318001.out) hb); have n5_ := Aside0.mk (Kd.R_below (zR14 HO_318002.out) hb); have n6_ := Aside0.mk (Kd.R_below (zR14 HO322.out) hb); have n7_ := Aside0.mk (Kd.R_below (zR14 HO325.out) hb); have n8_ := Aside0.mk (zb14 BK283.out hb); have n9_ := Aside0.mk (zb14 BK300.out hb); have n10_ := Aside0.mk (zb14 BK308.out hb); have n11_ := Aside0.mk (zb14 BK317.out hb); have n12_ := Aside0.mk (below_step (zB14_4) hb); clear HO_301001; clear HO_301002; clear HO_309001; clear HO_309002; clear HO_318001; clear HO_318002; clear HO322; clear HO325; clear BK283; clear BK300; clear BK308; clear BK317; clear HB; have HO_301001 := n0_; have HO_301002 := n1_; have HO_309001 := n2_; have HO_309002 := n3_; have HO_318001 := n4_; have HO_318002 := n5_; have HO322 := n6_; have HO325 := n7_; have BK283 := n8_; have BK300 := n9_; have BK308 := n10_; have BK317 := n11_; have HB := n12_; clear n0_ n1_ n2_ n3_ n4_ n5_ n6_ n7_ n8_ n9_ n10_ n11_ n12_; (try clear hb); (try clear hb2); (try clear hk); (try clear hi)))
     go_meet
     case rel => exact ⟨_, ((t316 != t299)), (by first | rfl | (simp; done) | (simp [*]; done)), H', ⟨by have := HJ11.out; first | omega | exact Nat.le_refl _⟩, ⟨by (with_reducible repeat (first | apply Kd.R_alloc | apply Kd.R_drewN | apply Kd.R_drew)); exact Kd.R_mono HO_301001.out (fun _ hk => ⟨hk.1, hk.2.1⟩)⟩, ⟨by (with_reducible repeat (first | apply Kd.R_alloc | apply Kd.R_drewN | apply Kd.R_drew)); exact Kd.R_mono HO_301002.out (fun _ hk => ⟨hk.1, hk.2.1⟩)⟩, ⟨by (with_reducible repeat (first | apply Kd.R_alloc | apply Kd.R_drewN | apply Kd.R_drew)); exact Kd.R_mono HO_309001.out (fun _ hk => ⟨hk.1.1, hk.1.2⟩)⟩, ⟨by (with_reducible repeat (first | apply Kd.R_alloc | apply Kd.R_drewN | apply Kd.R_drew)); exact Kd.R_mono HO_309002.out (fun _ hk => ⟨hk.1.1, hk.1.2⟩)⟩, ⟨by (with_reducible repeat (first | apply Kd.R_alloc | apply Kd.R_drewN | apply Kd.R_drew)); exact Kd.R_mono HO_318001.out (fun _ hk => ⟨hk.1, hk.2.1⟩)⟩, ⟨by (with_reducible repeat (first | apply Kd.R_alloc | apply Kd.R_drewN | apply Kd.R_drew)); exact Kd.R_mono HO_318002.out (fun _ hk => ⟨hk.1, hk.2.1⟩)⟩, ⟨zK14 BK283.out⟩, ⟨zK14 BK300.out⟩, ⟨zK14 BK308.out⟩, ⟨zK14 BK317.out⟩, ⟨zB14_4⟩⟩
    replace c78 := Bool.eq_false_iff.mpr c78
    subst c78
    have H1 : (laws_FnExactMoved.j1 kj11 a1 t299 true a0_0 l0_1 l0_2 t292 t293 t296 t309 t310 t313) = some r := by rw [if_neg (show ¬ (false = true) by decide)] at H; exact H
    clear H
    have H := H1
    clear H1
    have H' := Aside0.mk H
    clear H
    have hnb87 := NB317_283.out
    have hnc87 := NB283_317.out
    have hnb88 := NB317_300.out
    have hnc88 := NB300_317.out
    have hnb89 := NB317_308.out
    have hnc89 := NB308_317.out
    obtain ⟨hcz90_0, hcz90_1, hcz90_2, hfz90_0, hfz90_1, hfz90_2⟩ := zc14_3 (w := w75) BK317.out
    have hnb91 := NB300_283.out
    have hnc91 := NB283_300.out
    have hnb92 := NB300_308.out
    have hnc92 := NB308_300.out
    obtain ⟨hcz93_0, hcz93_1, hcz93_2, hfz93_0, hfz93_1, hfz93_2⟩ := zc14_3 (w := w75) BK300.out
    go_wp2_with (first | (go_at_call 28; (with_reducible refine (laws_eqPart.calls kj11 t309 _ _ t310 _ _ t313 t292 _ _ t293 _ _ t296 false _ ?side1 ?side2 ?side3 ?side4 ?side5 ?side6 ?side7 ?side8 A77.out).mono ?_); (case side1 => exact zC14 (Kd.R_reads' HO_318001.out).2.2); (case side2 => exact (Kd.R_reads' HO_318001.out).2.1); (case side3 => exact zC14 (Kd.R_reads' HO_318002.out).2.2); (case side4 => exact (Kd.R_reads' HO_318002.out).2.1); (case side5 => exact zC14 (Kd.R_reads' HO_301001.out).2.2); (case side6 => exact (Kd.R_reads' HO_301001.out).2.1); (case side7 => exact zC14 (Kd.R_reads' HO_301002.out).2.2); (case side8 => exact (Kd.R_reads' HO_301002.out).2.1); rintro e w94 ⟨rfl, hb⟩; have n0_ := Aside0.mk (Kd.R_below (zR14 HO_301001.out) hb); have n1_ := Aside0.mk (Kd.R_below (zR14 HO_301002.out) hb); have n2_ := Aside0.mk (Kd.R_below (zR14 HO_309001.out) hb); have n3_ := Aside0.mk (Kd.R_below (zR14 HO_309002.out) hb); have n4_ := Aside0.mk (Kd.R_below (zR14 HO_318001.out) hb); have n5_ := Aside0.mk (Kd.R_below (zR14 HO_318002.out) hb); have n6_ := Aside0.mk (Kd.R_below (zR14 HO322.out) hb); have n7_ := Aside0.mk (Kd.R_below (zR14 HO325.out) hb); have n8_ := Aside0.mk (zb14 BK283.out hb); have n9_ := Aside0.mk (zb14 BK300.out hb); have n10_ := Aside0.mk (zb14 BK308.out hb); have n11_ := Aside0.mk (zb14 BK317.out hb); have n12_ := Aside0.mk (below_step (zB14_4) hb); clear HO_301001; clear HO_301002; clear HO_309001; clear HO_309002; clear HO_318001; clear HO_318002; clear HO322; clear HO325; clear BK283; clear BK300; clear BK308; clear BK317; clear HB; have HO_301001 := n0_; have HO_301002 := n1_; have HO_309001 := n2_; have HO_309002 := n3_; have HO_318001 := n4_; have HO_318002 := n5_; have HO322 := n6_; have HO325 := n7_; have BK283 := n8_; have BK300 := n9_; have BK308 := n10_; have BK317 := n11_; have HB := n12_; clear n0_ n1_ n2_ n3_ n4_ n5_ n6_ n7_ n8_ n9_ n10_ n11_ n12_; (try clear hb); (try clear hb2); (try clear hk); (try clear hi)))
    go_meet
    case rel => exact ⟨_, (true), (by first | rfl | (simp; done) | (simp [*]; done)), H', ⟨by have := HJ11.out; first | omega | exact Nat.le_refl _⟩, ⟨by (with_reducible repeat (first | apply Kd.R_alloc | apply Kd.R_drewN | apply Kd.R_drew)); exact Kd.R_mono HO_301001.out (fun _ hk => ⟨hk.1, hk.2.1⟩)⟩, ⟨by (with_reducible repeat (first | apply Kd.R_alloc | apply Kd.R_drewN | apply Kd.R_drew)); exact Kd.R_mono HO_301002.out (fun _ hk => ⟨hk.1, hk.2.1⟩)⟩, ⟨by (with_reducible repeat (first | apply Kd.R_alloc | apply Kd.R_drewN | apply Kd.R_drew)); exact Kd.R_mono HO_309001.out (fun _ hk => ⟨hk.1.1, hk.1.2⟩)⟩, ⟨by (with_reducible repeat (first | apply Kd.R_alloc | apply Kd.R_drewN | apply Kd.R_drew)); exact Kd.R_mono HO_309002.out (fun _ hk => ⟨hk.1.1, hk.1.2⟩)⟩, ⟨by (with_reducible repeat (first | apply Kd.R_alloc | apply Kd.R_drewN | apply Kd.R_drew)); exact Kd.R_mono HO_318001.out (fun _ hk => ⟨hk.1, hk.2.1⟩)⟩, ⟨by (with_reducible repeat (first | apply Kd.R_alloc | apply Kd.R_drewN | apply Kd.R_drew)); exact Kd.R_mono HO_318002.out (fun _ hk => ⟨hk.1, hk.2.1⟩)⟩, ⟨zK14 BK283.out⟩, ⟨zK14 BK300.out⟩, ⟨zK14 BK308.out⟩, ⟨zK14 BK317.out⟩, ⟨zB14_4⟩⟩
   case rest =>
    clear HC65
    try clear c1
    try clear c2
    try clear p2
    try clear c3
    try clear c4
    try clear c4b0
    try clear c5
    try clear c6
    try clear c7
    try clear c8
    try clear c9
    try clear c12
    try clear c22
    try clear c24
    try clear c26
    try clear c28
    try clear c29
    try clear c30
    try clear c31
    try clear c36
    try clear c37
    try clear c38
    try clear c43
    try clear c44
    try clear c45
    try clear c46
    try clear c48
    try clear c49
    try clear c52
    try clear c53
    try clear c54
    try clear c56
    try clear c57
    try clear c60
    try clear c63
    try clear c71
    try clear c72
    try clear c73
    try clear c76
    try clear c76b0
    try clear c78
    try clear c79
    try clear c80
    try clear c81
    try clear c83
    try clear c84
    try clear c87
    try clear c88
    try clear c89
    try clear c91
    try clear c92
    try clear hcz14_0
    try clear hcz14_1
    try clear hcz14_2
    try clear hcz16_0
    try clear hcz16_1
    try clear hcz16_2
    try clear hcz23_0
    try clear hcz23_1
    try clear hcz23_2
    try clear hcz26_0
    try clear hcz26_1
    try clear hcz26_2
    try clear hcz31_0
    try clear hcz31_1
    try clear hcz31_2
    try clear hcz39_0
    try clear hcz39_1
    try clear hcz39_2
    try clear hcz47_0
    try clear hcz47_1
    try clear hcz47_2
    try clear hcz50_0
    try clear hcz50_1
    try clear hcz50_2
    try clear hcz55_0
    try clear hcz55_1
    try clear hcz55_2
    try clear hcz58_0
    try clear hcz58_1
    try clear hcz58_2
    try clear hcz6_0
    try clear hcz6_1
    try clear hcz6_2
    try clear hcz74_0
    try clear hcz74_1
    try clear hcz74_2
    try clear hcz82_0
    try clear hcz82_1
    try clear hcz82_2
    try clear hcz85_0
    try clear hcz85_1
    try clear hcz85_2
    try clear hcz90_0
    try clear hcz90_1
    try clear hcz90_2
    try clear hcz93_0
    try clear hcz93_1
    try clear hcz93_2
    try clear hfz14_0
    try clear hfz14_1
    try clear hfz14_2
    try clear hfz16_0
    try clear hfz16_1
    try clear hfz16_2
    try clear hfz23_0
    try clear hfz23_1
    try clear hfz23_2
    try clear hfz26_0
    try clear hfz26_1
    try clear hfz26_2
    try clear hfz31_0
    try clear hfz31_1
    try clear hfz31_2
    try clear hfz39_0
    try clear hfz39_1
    try clear hfz39_2
    try clear hfz47_0
    try clear hfz47_1
    try clear hfz47_2
    try clear hfz50_0
    try clear hfz50_1
    try clear hfz50_2
    try clear hfz55_0
    try clear hfz55_1
    try clear hfz55_2
    try clear hfz58_0
    try clear hfz58_1
    try clear hfz58_2
    try clear hfz6_0
    try clear hfz6_1
    try clear hfz6_2
    try clear hfz74_0
    try clear hfz74_1
    try clear hfz74_2
    try clear hfz82_0
    try clear hfz82_1
    try clear hfz82_2
    try clear hfz85_0
    try clear hfz85_1
    try clear hfz85_2
    try clear hfz90_0
    try clear hfz90_1
    try clear hfz90_2
    try clear hfz93_0
    try clear hfz93_1
    try clear hfz93_2
    try clear p2
    obtain ⟨kq, x65_64, rfl, HA, HJ64, HO_301001, HO_301002, HO_309001, HO_309002, HO_318001, HO_318002, BK283, BK300, BK308, BK317, HB⟩ := hcut
    have hl309001_64 := (Kd.R_reads' HO_309001.out).1
    rw [hl309001_64] at HO_309001
    (try simp only [hl309001_64])
    (try simp only [hl309001_64] at BK283)
    (try simp only [hl309001_64] at BK300)
    (try simp only [hl309001_64] at BK308)
    (try simp only [hl309001_64] at BK317)
    (try simp only [hl309001_64] at HO_301001)
    (try simp only [hl309001_64] at HO_301002)
    (try simp only [hl309001_64] at HO_309002)
    (try simp only [hl309001_64] at HO_318001)
    (try simp only [hl309001_64] at HO_318002)
    have hl309002_64 := (Kd.R_reads' HO_309002.out).1
    rw [hl309002_64] at HO_309002
    (try simp only [hl309002_64])
    (try simp only [hl309002_64] at BK283)
    (try simp only [hl309002_64] at BK300)
    (try simp only [hl309002_64] at BK308)
    (try simp only [hl309002_64] at BK317)
    (try simp only [hl309002_64] at HO_301001)
    (try simp only [hl309002_64] at HO_301002)
    (try simp only [hl309002_64] at HO_309001)
    (try simp only [hl309002_64] at HO_318001)
    (try simp only [hl309002_64] at HO_318002)
    cases kq with
    | zero => exact absurd HA.out (by simp [laws_FnExactMoved.j1])
    | succ kj64 =>
     have H := HA.out
     clear HA
     simp only [laws_FnExactMoved.j1] at H
     by_cases c95 : x65_64 = true
     ·subst c95
      have H1 : (some false) = some r := by rw [if_pos rfl] at H; exact H
      clear H
      have H := H1
      clear H1
      obtain rfl := Option.some.inj H
      go_wp2
      go_ret
      exact ⟨zE14, zB14_4⟩
     replace c95 := Bool.eq_false_iff.mpr c95
     subst c95
     have H1 : ((laws_markPart.f kj64 t309 t310 t313 1).bind fun bt331 => ((laws_heldPart.f kj64 t309 bt331.2.1 bt331.2.2 1).bind fun t334 => (if t334 < 0 then (some false) else (if t334 = bt331.1 then ((laws_toPart.f kj64 a0_0 l0_1 l0_2).bind fun bt335 => ((impl_Moved.f kj64 bt335.1 bt335.2.1 bt335.2.2 a1).bind fun bt342 => ((laws_eqPart.f kj64 bt342.1 bt342.2.1 bt342.2.2.1 t292 t293 t296).bind fun t351 => (if t351 = true then (laws_FnExactMoved.j2 kj64 bt331.1 (bt342.2.2.2 != t299) t309 bt331.2.1 bt331.2.2) else (laws_FnExactMoved.j2 kj64 bt331.1 true t309 bt331.2.1 bt331.2.2))))) else (some false))))) = some r := by rw [if_neg (show ¬ (false = true) by decide)] at H; exact H
     clear H
     have H := H1
     clear H1
     replace H := Option.bind_eq_some_iff.mp H
     obtain ⟨⟨t331, t332, t333⟩, A960, H⟩ := H
     replace H : ((laws_heldPart.f kj64 t309 t332 t333 1).bind fun t334 => (if t334 < 0 then (some false) else (if t334 = t331 then ((laws_toPart.f kj64 a0_0 l0_1 l0_2).bind fun bt335 => ((impl_Moved.f kj64 bt335.1 bt335.2.1 bt335.2.2 a1).bind fun bt342 => ((laws_eqPart.f kj64 bt342.1 bt342.2.1 bt342.2.2.1 t292 t293 t296).bind fun t351 => (if t351 = true then (laws_FnExactMoved.j2 kj64 t331 (bt342.2.2.2 != t299) t309 t332 t333) else (laws_FnExactMoved.j2 kj64 t331 true t309 t332 t333))))) else (some false)))) = some r := H
     have A96 := Aside0.mk A960
     clear A960
     replace H := Option.bind_eq_some_iff.mp H
     obtain ⟨t334, A970, H⟩ := H
     replace H : (if t334 < 0 then (some false) else (if t334 = t331 then ((laws_toPart.f kj64 a0_0 l0_1 l0_2).bind fun bt335 => ((impl_Moved.f kj64 bt335.1 bt335.2.1 bt335.2.2 a1).bind fun bt342 => ((laws_eqPart.f kj64 bt342.1 bt342.2.1 bt342.2.2.1 t292 t293 t296).bind fun t351 => (if t351 = true then (laws_FnExactMoved.j2 kj64 t331 (bt342.2.2.2 != t299) t309 t332 t333) else (laws_FnExactMoved.j2 kj64 t331 true t309 t332 t333))))) else (some false))) = some r := H
     have A97 := Aside0.mk A970
     clear A970
     by_cases c98 : t334 < 0
     ·rw [if_pos c98] at H
      have c98b0 : decide (t334 < 0) = true := decide_eq_true c98
      clear c98
      obtain rfl := Option.some.inj H
      have hnb99 := NB317_283.out
      have hnc99 := NB283_317.out
      have hnb100 := NB317_300.out
      have hnc100 := NB300_317.out
      have hnb101 := NB317_308.out
      have hnc101 := NB308_317.out
      obtain ⟨hcz102_0, hcz102_1, hcz102_2, hfz102_0, hfz102_1, hfz102_2⟩ := zc14_3 (w := wc) BK317.out
      go_wp2_with (first | ((with_reducible refine gate_callee (f := 60) rfl ?_); refine goesL_ (some 68) rfl rfl Try.func60 (by kernel_rfl) rfl #[.agg #[.string t309, .slice Ao40 t310.length co40, .slice Ao41 t313.length co41], .int .i64 1] rfl zT14 ?_; (with_reducible refine (laws_markPart.calls kj64 t309 (fun k_ => some k_ = (.slice Ao40 t310.length co40 : Value).ownBlock) (.slice Ao40 t310.length co40) t310 (fun k_ => some k_ = (.slice Ao41 t313.length co41 : Value).ownBlock) (.slice Ao41 t313.length co41) t313 1 t331 t332 t333 w _ ?side1 ?side2 ?side3 A96.out).mono ?_); (case side1 => repeat (first | (with_reducible first | exact HB.out | apply below_alloc | apply pw_below_drewN | apply below_drew1 | refine below_set ?_ GE283.out | refine below_set ?_ GE300.out | refine below_set ?_ GE308.out | refine below_set ?_ GE317.out) | exact HB.out)); (case side2 => exact Kd.R_tight rfl HO_318001.out); (case side3 => exact Kd.R_tight rfl HO_318002.out); rintro e w103 ⟨rfl, hy0, hy1, hb, hkp⟩; refine ⟨_, rfl, ?_⟩; have n0_ := Aside0.mk (Kd.R_mono (ok' := fun k_ => some k_ ≠ (.slice Ao32 t328.length co32 : Value).ownBlock ∧ some k_ ≠ (.slice Ao40 t310.length co40 : Value).ownBlock) (Kd.R_keptB ((Kd.R_apart' HO_301001.out (Kd.R_typed HO_318002.out) (by decide))) hkp (fun k_ hk_ hs_ => Or.elim hs_ (fun e_ => (hk_.1.2) e_) (fun e_ => (hk_.2) e_))) (fun k_ hk_ => ⟨hk_.1.1.1, hk_.1.1.2⟩)); have n1_ := Aside0.mk (Kd.R_mono (ok' := fun k_ => some k_ ≠ (.slice Ao33 t329.length co33 : Value).ownBlock ∧ some k_ ≠ (.slice Ao41 t313.length co41 : Value).ownBlock) (Kd.R_keptB ((Kd.R_apart' HO_301002.out (Kd.R_typed HO_318001.out) (by decide))) hkp (fun k_ hk_ hs_ => Or.elim hs_ (fun e_ => (hk_.2) e_) (fun e_ => (hk_.1.2) e_))) (fun k_ hk_ => ⟨hk_.1.1.1, hk_.1.1.2⟩)); have n2_ := Aside0.mk (Kd.R_mono (ok' := fun k_ => some k_ ≠ (.slice Ao24 t293.length co24 : Value).ownBlock ∧ some k_ ≠ (.slice Ao40 t310.length co40 : Value).ownBlock) (Kd.R_keptB ((Kd.R_apart' HO_309001.out (Kd.R_typed HO_318002.out) (by decide))) hkp (fun k_ hk_ hs_ => Or.elim hs_ (fun e_ => (hk_.1.2) e_) (fun e_ => (hk_.2) e_))) (fun k_ hk_ => ⟨hk_.1.1.1, hk_.1.1.2⟩)); have n3_ := Aside0.mk (Kd.R_mono (ok' := fun k_ => some k_ ≠ (.slice Ao25 t296.length co25 : Value).ownBlock ∧ some k_ ≠ (.slice Ao41 t313.length co41 : Value).ownBlock) (Kd.R_keptB ((Kd.R_apart' HO_309002.out (Kd.R_typed HO_318001.out) (by decide))) hkp (fun k_ hk_ hs_ => Or.elim hs_ (fun e_ => (hk_.2) e_) (fun e_ => (hk_.1.2) e_))) (fun k_ hk_ => ⟨hk_.1.1.1, hk_.1.1.2⟩)); have n4_ := Aside0.mk (Kd.R_reok rfl hy0 (fun k_ e_ => HO_318001.out.1 k_ e_)); have n5_ := Aside0.mk (Kd.R_reok rfl hy1 (fun k_ e_ => HO_318002.out.1 k_ e_)); have n6_ := Aside0.mk (blk_kept (zK14 BK283.out) hkp (fun hs_ => Or.elim hs_ (fun e_ => (fun e_ => (Kd.R_ne HO_318001.out BK283.out (by decide)) e_) e_) (fun e_ => (fun e_ => (Kd.R_ne HO_318002.out BK283.out (by decide)) e_) e_))); have n7_ := Aside0.mk (blk_kept (zK14 BK300.out) hkp (fun hs_ => Or.elim hs_ (fun e_ => (fun e_ => (Kd.R_ne HO_318001.out BK300.out (by decide)) e_) e_) (fun e_ => (fun e_ => (Kd.R_ne HO_318002.out BK300.out (by decide)) e_) e_))); have n8_ := Aside0.mk (blk_kept (zK14 BK308.out) hkp (fun hs_ => Or.elim hs_ (fun e_ => (fun e_ => (Kd.R_ne HO_318001.out BK308.out (by decide)) e_) e_) (fun e_ => (fun e_ => (Kd.R_ne HO_318002.out BK308.out (by decide)) e_) e_))); have n9_ := Aside0.mk (blk_kept (zK14 BK317.out) hkp (fun hs_ => Or.elim hs_ (fun e_ => (fun e_ => (Kd.R_ne HO_318001.out BK317.out (by decide)) e_) e_) (fun e_ => (fun e_ => (Kd.R_ne HO_318002.out BK317.out (by decide)) e_) e_))); have n10_ := Aside0.mk (hb); clear HO_301001; clear HO_301002; clear HO_309001; clear HO_309002; clear HO_318001; clear HO_318002; clear BK283; clear BK300; clear BK308; clear BK317; clear HB; have HO_301001 := n0_; have HO_301002 := n1_; have HO_309001 := n2_; have HO_309002 := n3_; have HO_318001 := n4_; have HO_318002 := n5_; have BK283 := n6_; have BK300 := n7_; have BK308 := n8_; have BK317 := n9_; have HB := n10_; clear n0_ n1_ n2_ n3_ n4_ n5_ n6_ n7_ n8_ n9_ n10_; (try clear hb); (try clear hkp); (try clear hy0); (try clear hy1); obtain ⟨hcz104_0, hcz104_1, hcz104_2, hfz104_0, hfz104_1, hfz104_2⟩ := zc14_3 (w := w103) BK317.out) | ((with_reducible refine gate_callee (f := 61) rfl ?_); refine goesL_ (some 71) rfl rfl Try.func61 (by kernel_rfl) rfl #[.agg #[.string t309, .slice Ao40 t332.length co40, .slice Ao41 t333.length co41], .int .i64 1] rfl (by (try simp only [List.map_toArray, List.map_cons, List.map_nil]); first | done | (rw [show t332.length = t310.length from (Kd.R_reads' HO_318001.out).1.symm, show t333.length = t313.length from (Kd.R_reads' HO_318002.out).1.symm] <;> rfl) | rfl | (simp only [List.length_drop, List.length_take]; rfl)) ?_; (with_reducible refine (laws_heldPart.calls kj64 t309 _ _ t332 _ _ t333 1 t334 _ ?side1 ?side2 ?side3 ?side4 A97.out).mono ?_); (case side1 => exact zC14 (Kd.R_reads' HO_318001.out).2.2); (case side2 => rw [show t332.length = t310.length from (Kd.R_reads' HO_318001.out).1.symm]; exact (Kd.R_reads' HO_318001.out).2.1); (case side3 => exact zC14 (Kd.R_reads' HO_318002.out).2.2); (case side4 => rw [show t333.length = t313.length from (Kd.R_reads' HO_318002.out).1.symm]; exact (Kd.R_reads' HO_318002.out).2.1); rintro e w105 ⟨rfl, hb⟩; refine ⟨_, rfl, ?_⟩; have n0_ := Aside0.mk (Kd.R_below (zR14 HO_301001.out) hb); have n1_ := Aside0.mk (Kd.R_below (zR14 HO_301002.out) hb); have n2_ := Aside0.mk (Kd.R_below (zR14 HO_309001.out) hb); have n3_ := Aside0.mk (Kd.R_below (zR14 HO_309002.out) hb); have n4_ := Aside0.mk (Kd.R_below (zR14 HO_318001.out) hb); have n5_ := Aside0.mk (Kd.R_below (zR14 HO_318002.out) hb); have n6_ := Aside0.mk (zb14 BK283.out hb); have n7_ := Aside0.mk (zb14 BK300.out hb); have n8_ := Aside0.mk (zb14 BK308.out hb); have n9_ := Aside0.mk (zb14 BK317.out hb); have n10_ := Aside0.mk (below_step (zB14_4) hb); clear HO_301001; clear HO_301002; clear HO_309001; clear HO_309002; clear HO_318001; clear HO_318002; clear BK283; clear BK300; clear BK308; clear BK317; clear HB; have HO_301001 := n0_; have HO_301002 := n1_; have HO_309001 := n2_; have HO_309002 := n3_; have HO_318001 := n4_; have HO_318002 := n5_; have BK283 := n6_; have BK300 := n7_; have BK308 := n8_; have BK317 := n9_; have HB := n10_; clear n0_ n1_ n2_ n3_ n4_ n5_ n6_ n7_ n8_ n9_ n10_; (try clear hb); (try clear hb2); (try clear hk); (try clear hi)))
      go_ret
      exact ⟨zE14, zB14_4⟩
     rw [if_neg c98] at H
     have c98b0 : decide (t334 < 0) = false := decide_eq_false c98
     clear c98
     by_cases c106 : t334 = t331
     rotate_left
     ·rw [if_neg c106] at H
      have c106b0 : (t334 == t331) = false := beq_eq_false_iff_ne.mpr c106
      have c106b1 : (t334 != t331) = true := bne_iff_ne.mpr c106
      obtain rfl := Option.some.inj H
      have hnb176 := NB317_283.out
      have hnc176 := NB283_317.out
      have hnb177 := NB317_300.out
      have hnc177 := NB300_317.out
      have hnb178 := NB317_308.out
      have hnc178 := NB308_317.out
      obtain ⟨hcz179_0, hcz179_1, hcz179_2, hfz179_0, hfz179_1, hfz179_2⟩ := zc14_3 (w := wc) BK317.out
      go_wp2_with (first | ((with_reducible refine gate_callee (f := 60) rfl ?_); refine goesL_ (some 68) rfl rfl Try.func60 (by kernel_rfl) rfl #[.agg #[.string t309, .slice Ao40 t310.length co40, .slice Ao41 t313.length co41], .int .i64 1] rfl zT14 ?_; (with_reducible refine (laws_markPart.calls kj64 t309 (fun k_ => some k_ = (.slice Ao40 t310.length co40 : Value).ownBlock) (.slice Ao40 t310.length co40) t310 (fun k_ => some k_ = (.slice Ao41 t313.length co41 : Value).ownBlock) (.slice Ao41 t313.length co41) t313 1 t331 t332 t333 w _ ?side1 ?side2 ?side3 A96.out).mono ?_); (case side1 => repeat (first | (with_reducible first | exact HB.out | apply below_alloc | apply pw_below_drewN | apply below_drew1 | refine below_set ?_ GE283.out | refine below_set ?_ GE300.out | refine below_set ?_ GE308.out | refine below_set ?_ GE317.out) | exact HB.out)); (case side2 => exact Kd.R_tight rfl HO_318001.out); (case side3 => exact Kd.R_tight rfl HO_318002.out); rintro e w180 ⟨rfl, hy0, hy1, hb, hkp⟩; refine ⟨_, rfl, ?_⟩; have n0_ := Aside0.mk (Kd.R_mono (ok' := fun k_ => some k_ ≠ (.slice Ao32 t328.length co32 : Value).ownBlock ∧ some k_ ≠ (.slice Ao40 t310.length co40 : Value).ownBlock) (Kd.R_keptB ((Kd.R_apart' HO_301001.out (Kd.R_typed HO_318002.out) (by decide))) hkp (fun k_ hk_ hs_ => Or.elim hs_ (fun e_ => (hk_.1.2) e_) (fun e_ => (hk_.2) e_))) (fun k_ hk_ => ⟨hk_.1.1.1, hk_.1.1.2⟩)); have n1_ := Aside0.mk (Kd.R_mono (ok' := fun k_ => some k_ ≠ (.slice Ao33 t329.length co33 : Value).ownBlock ∧ some k_ ≠ (.slice Ao41 t313.length co41 : Value).ownBlock) (Kd.R_keptB ((Kd.R_apart' HO_301002.out (Kd.R_typed HO_318001.out) (by decide))) hkp (fun k_ hk_ hs_ => Or.elim hs_ (fun e_ => (hk_.2) e_) (fun e_ => (hk_.1.2) e_))) (fun k_ hk_ => ⟨hk_.1.1.1, hk_.1.1.2⟩)); have n2_ := Aside0.mk (Kd.R_mono (ok' := fun k_ => some k_ ≠ (.slice Ao24 t293.length co24 : Value).ownBlock ∧ some k_ ≠ (.slice Ao40 t310.length co40 : Value).ownBlock) (Kd.R_keptB ((Kd.R_apart' HO_309001.out (Kd.R_typed HO_318002.out) (by decide))) hkp (fun k_ hk_ hs_ => Or.elim hs_ (fun e_ => (hk_.1.2) e_) (fun e_ => (hk_.2) e_))) (fun k_ hk_ => ⟨hk_.1.1.1, hk_.1.1.2⟩)); have n3_ := Aside0.mk (Kd.R_mono (ok' := fun k_ => some k_ ≠ (.slice Ao25 t296.length co25 : Value).ownBlock ∧ some k_ ≠ (.slice Ao41 t313.length co41 : Value).ownBlock) (Kd.R_keptB ((Kd.R_apart' HO_309002.out (Kd.R_typed HO_318001.out) (by decide))) hkp (fun k_ hk_ hs_ => Or.elim hs_ (fun e_ => (hk_.2) e_) (fun e_ => (hk_.1.2) e_))) (fun k_ hk_ => ⟨hk_.1.1.1, hk_.1.1.2⟩)); have n4_ := Aside0.mk (Kd.R_reok rfl hy0 (fun k_ e_ => HO_318001.out.1 k_ e_)); have n5_ := Aside0.mk (Kd.R_reok rfl hy1 (fun k_ e_ => HO_318002.out.1 k_ e_)); have n6_ := Aside0.mk (blk_kept (zK14 BK283.out) hkp (fun hs_ => Or.elim hs_ (fun e_ => (fun e_ => (Kd.R_ne HO_318001.out BK283.out (by decide)) e_) e_) (fun e_ => (fun e_ => (Kd.R_ne HO_318002.out BK283.out (by decide)) e_) e_))); have n7_ := Aside0.mk (blk_kept (zK14 BK300.out) hkp (fun hs_ => Or.elim hs_ (fun e_ => (fun e_ => (Kd.R_ne HO_318001.out BK300.out (by decide)) e_) e_) (fun e_ => (fun e_ => (Kd.R_ne HO_318002.out BK300.out (by decide)) e_) e_))); have n8_ := Aside0.mk (blk_kept (zK14 BK308.out) hkp (fun hs_ => Or.elim hs_ (fun e_ => (fun e_ => (Kd.R_ne HO_318001.out BK308.out (by decide)) e_) e_) (fun e_ => (fun e_ => (Kd.R_ne HO_318002.out BK308.out (by decide)) e_) e_))); have n9_ := Aside0.mk (blk_kept (zK14 BK317.out) hkp (fun hs_ => Or.elim hs_ (fun e_ => (fun e_ => (Kd.R_ne HO_318001.out BK317.out (by decide)) e_) e_) (fun e_ => (fun e_ => (Kd.R_ne HO_318002.out BK317.out (by decide)) e_) e_))); have n10_ := Aside0.mk (hb); clear HO_301001; clear HO_301002; clear HO_309001; clear HO_309002; clear HO_318001; clear HO_318002; clear BK283; clear BK300; clear BK308; clear BK317; clear HB; have HO_301001 := n0_; have HO_301002 := n1_; have HO_309001 := n2_; have HO_309002 := n3_; have HO_318001 := n4_; have HO_318002 := n5_; have BK283 := n6_; have BK300 := n7_; have BK308 := n8_; have BK317 := n9_; have HB := n10_; clear n0_ n1_ n2_ n3_ n4_ n5_ n6_ n7_ n8_ n9_ n10_; (try clear hb); (try clear hkp); (try clear hy0); (try clear hy1); obtain ⟨hcz181_0, hcz181_1, hcz181_2, hfz181_0, hfz181_1, hfz181_2⟩ := zc14_3 (w := w180) BK317.out) | ((with_reducible refine gate_callee (f := 61) rfl ?_); refine goesL_ (some 71) rfl rfl Try.func61 (by kernel_rfl) rfl #[.agg #[.string t309, .slice Ao40 t332.length co40, .slice Ao41 t333.length co41], .int .i64 1] rfl (by (try simp only [List.map_toArray, List.map_cons, List.map_nil]); first | done | (rw [show t332.length = t310.length from (Kd.R_reads' HO_318001.out).1.symm, show t333.length = t313.length from (Kd.R_reads' HO_318002.out).1.symm] <;> rfl) | rfl | (simp only [List.length_drop, List.length_take]; rfl)) ?_; (with_reducible refine (laws_heldPart.calls kj64 t309 _ _ t332 _ _ t333 1 t334 _ ?side1 ?side2 ?side3 ?side4 A97.out).mono ?_); (case side1 => exact zC14 (Kd.R_reads' HO_318001.out).2.2); (case side2 => rw [show t332.length = t310.length from (Kd.R_reads' HO_318001.out).1.symm]; exact (Kd.R_reads' HO_318001.out).2.1); (case side3 => exact zC14 (Kd.R_reads' HO_318002.out).2.2); (case side4 => rw [show t333.length = t313.length from (Kd.R_reads' HO_318002.out).1.symm]; exact (Kd.R_reads' HO_318002.out).2.1); rintro e w182 ⟨rfl, hb⟩; refine ⟨_, rfl, ?_⟩; have n0_ := Aside0.mk (Kd.R_below (zR14 HO_301001.out) hb); have n1_ := Aside0.mk (Kd.R_below (zR14 HO_301002.out) hb); have n2_ := Aside0.mk (Kd.R_below (zR14 HO_309001.out) hb); have n3_ := Aside0.mk (Kd.R_below (zR14 HO_309002.out) hb); have n4_ := Aside0.mk (Kd.R_below (zR14 HO_318001.out) hb); have n5_ := Aside0.mk (Kd.R_below (zR14 HO_318002.out) hb); have n6_ := Aside0.mk (zb14 BK283.out hb); have n7_ := Aside0.mk (zb14 BK300.out hb); have n8_ := Aside0.mk (zb14 BK308.out hb); have n9_ := Aside0.mk (zb14 BK317.out hb); have n10_ := Aside0.mk (below_step (zB14_4) hb); clear HO_301001; clear HO_301002; clear HO_309001; clear HO_309002; clear HO_318001; clear HO_318002; clear BK283; clear BK300; clear BK308; clear BK317; clear HB; have HO_301001 := n0_; have HO_301002 := n1_; have HO_309001 := n2_; have HO_309002 := n3_; have HO_318001 := n4_; have HO_318002 := n5_; have BK283 := n6_; have BK300 := n7_; have BK308 := n8_; have BK317 := n9_; have HB := n10_; clear n0_ n1_ n2_ n3_ n4_ n5_ n6_ n7_ n8_ n9_ n10_; (try clear hb); (try clear hb2); (try clear hk); (try clear hi)))
      go_ret
      exact ⟨zE14, zB14_4⟩
     rw [if_pos c106] at H
     have c106b0 : (t334 == t331) = true := beq_iff_eq.mpr c106
     have c106b1 : (t334 != t331) = false := bne_eq_false_iff_eq.mpr c106
     clear c106
     replace H := Option.bind_eq_some_iff.mp H
     obtain ⟨⟨t335, t336, t339⟩, A1070, H⟩ := H
     replace H : ((impl_Moved.f kj64 t335 t336 t339 a1).bind fun bt342 => ((laws_eqPart.f kj64 bt342.1 bt342.2.1 bt342.2.2.1 t292 t293 t296).bind fun t351 => (if t351 = true then (laws_FnExactMoved.j2 kj64 t331 (bt342.2.2.2 != t299) t309 t332 t333) else (laws_FnExactMoved.j2 kj64 t331 true t309 t332 t333)))) = some r := H
     have A107 := Aside0.mk A1070
     clear A1070
     replace H := Option.bind_eq_some_iff.mp H
     obtain ⟨⟨t342, t343, t346, t349⟩, A1080, H⟩ := H
     replace H : ((laws_eqPart.f kj64 t342 t343 t346 t292 t293 t296).bind fun t351 => (if t351 = true then (laws_FnExactMoved.j2 kj64 t331 (t349 != t299) t309 t332 t333) else (laws_FnExactMoved.j2 kj64 t331 true t309 t332 t333))) = some r := H
     have A108 := Aside0.mk A1080
     clear A1080
     have HC109 := Aside0.mk H
     clear H
     have hnb110 := NB317_283.out
     have hnc110 := NB283_317.out
     have hnb111 := NB317_300.out
     have hnc111 := NB300_317.out
     have hnb112 := NB317_308.out
     have hnc112 := NB308_317.out
     obtain ⟨hcz113_0, hcz113_1, hcz113_2, hfz113_0, hfz113_1, hfz113_2⟩ := zc14_3 (w := wc) BK317.out
     go_upto_region 25 with (first | ((with_reducible refine gate_callee (f := 60) rfl ?_); refine goesL_ (some 68) rfl rfl Try.func60 (by kernel_rfl) rfl #[.agg #[.string t309, .slice Ao40 t310.length co40, .slice Ao41 t313.length co41], .int .i64 1] rfl zT14 ?_; (with_reducible refine (laws_markPart.calls kj64 t309 (fun k_ => some k_ = (.slice Ao40 t310.length co40 : Value).ownBlock) (.slice Ao40 t310.length co40) t310 (fun k_ => some k_ = (.slice Ao41 t313.length co41 : Value).ownBlock) (.slice Ao41 t313.length co41) t313 1 t331 t332 t333 w _ ?side1 ?side2 ?side3 A96.out).mono ?_); (case side1 => repeat (first | (with_reducible first | exact HB.out | apply below_alloc | apply pw_below_drewN | apply below_drew1 | refine below_set ?_ GE283.out | refine below_set ?_ GE300.out | refine below_set ?_ GE308.out | refine below_set ?_ GE317.out) | exact HB.out)); (case side2 => exact Kd.R_tight rfl HO_318001.out); (case side3 => exact Kd.R_tight rfl HO_318002.out); rintro e w114 ⟨rfl, hy0, hy1, hb, hkp⟩; refine ⟨_, rfl, ?_⟩; have n0_ := Aside0.mk (Kd.R_mono (ok' := fun k_ => some k_ ≠ (.slice Ao32 t328.length co32 : Value).ownBlock ∧ some k_ ≠ (.slice Ao40 t310.length co40 : Value).ownBlock) (Kd.R_keptB ((Kd.R_apart' HO_301001.out (Kd.R_typed HO_318002.out) (by decide))) hkp (fun k_ hk_ hs_ => Or.elim hs_ (fun e_ => (hk_.1.2) e_) (fun e_ => (hk_.2) e_))) (fun k_ hk_ => ⟨hk_.1.1.1, hk_.1.1.2⟩)); have n1_ := Aside0.mk (Kd.R_mono (ok' := fun k_ => some k_ ≠ (.slice Ao33 t329.length co33 : Value).ownBlock ∧ some k_ ≠ (.slice Ao41 t313.length co41 : Value).ownBlock) (Kd.R_keptB ((Kd.R_apart' HO_301002.out (Kd.R_typed HO_318001.out) (by decide))) hkp (fun k_ hk_ hs_ => Or.elim hs_ (fun e_ => (hk_.2) e_) (fun e_ => (hk_.1.2) e_))) (fun k_ hk_ => ⟨hk_.1.1.1, hk_.1.1.2⟩)); have n2_ := Aside0.mk (Kd.R_mono (ok' := fun k_ => some k_ ≠ (.slice Ao24 t293.length co24 : Value).ownBlock ∧ some k_ ≠ (.slice Ao40 t310.length co40 : Value).ownBlock) (Kd.R_keptB ((Kd.R_apart' HO_309001.out (Kd.R_typed HO_318002.out) (by decide))) hkp (fun k_ hk_ hs_ => Or.elim hs_ (fun e_ => (hk_.1.2) e_) (fun e_ => (hk_.2) e_))) (fun k_ hk_ => ⟨hk_.1.1.1, hk_.1.1.2⟩)); have n3_ := Aside0.mk (Kd.R_mono (ok' := fun k_ => some k_ ≠ (.slice Ao25 t296.length co25 : Value).ownBlock ∧ some k_ ≠ (.slice Ao41 t313.length co41 : Value).ownBlock) (Kd.R_keptB ((Kd.R_apart' HO_309002.out (Kd.R_typed HO_318001.out) (by decide))) hkp (fun k_ hk_ hs_ => Or.elim hs_ (fun e_ => (hk_.2) e_) (fun e_ => (hk_.1.2) e_))) (fun k_ hk_ => ⟨hk_.1.1.1, hk_.1.1.2⟩)); have n4_ := Aside0.mk (Kd.R_reok rfl hy0 (fun k_ e_ => HO_318001.out.1 k_ e_)); have n5_ := Aside0.mk (Kd.R_reok rfl hy1 (fun k_ e_ => HO_318002.out.1 k_ e_)); have n6_ := Aside0.mk (blk_kept (zK14 BK283.out) hkp (fun hs_ => Or.elim hs_ (fun e_ => (fun e_ => (Kd.R_ne HO_318001.out BK283.out (by decide)) e_) e_) (fun e_ => (fun e_ => (Kd.R_ne HO_318002.out BK283.out (by decide)) e_) e_))); have n7_ := Aside0.mk (blk_kept (zK14 BK300.out) hkp (fun hs_ => Or.elim hs_ (fun e_ => (fun e_ => (Kd.R_ne HO_318001.out BK300.out (by decide)) e_) e_) (fun e_ => (fun e_ => (Kd.R_ne HO_318002.out BK300.out (by decide)) e_) e_))); have n8_ := Aside0.mk (blk_kept (zK14 BK308.out) hkp (fun hs_ => Or.elim hs_ (fun e_ => (fun e_ => (Kd.R_ne HO_318001.out BK308.out (by decide)) e_) e_) (fun e_ => (fun e_ => (Kd.R_ne HO_318002.out BK308.out (by decide)) e_) e_))); have n9_ := Aside0.mk (blk_kept (zK14 BK317.out) hkp (fun hs_ => Or.elim hs_ (fun e_ => (fun e_ => (Kd.R_ne HO_318001.out BK317.out (by decide)) e_) e_) (fun e_ => (fun e_ => (Kd.R_ne HO_318002.out BK317.out (by decide)) e_) e_))); have n10_ := Aside0.mk (hb); clear HO_301001; clear HO_301002; clear HO_309001; clear HO_309002; clear HO_318001; clear HO_318002; clear BK283; clear BK300; clear BK308; clear BK317; clear HB; have HO_301001 := n0_; have HO_301002 := n1_; have HO_309001 := n2_; have HO_309002 := n3_; have HO_318001 := n4_; have HO_318002 := n5_; have BK283 := n6_; have BK300 := n7_; have BK308 := n8_; have BK317 := n9_; have HB := n10_; clear n0_ n1_ n2_ n3_ n4_ n5_ n6_ n7_ n8_ n9_ n10_; (try clear hb); (try clear hkp); (try clear hy0); (try clear hy1); obtain ⟨hcz115_0, hcz115_1, hcz115_2, hfz115_0, hfz115_1, hfz115_2⟩ := zc14_3 (w := w114) BK317.out) | ((with_reducible refine gate_callee (f := 61) rfl ?_); refine goesL_ (some 71) rfl rfl Try.func61 (by kernel_rfl) rfl #[.agg #[.string t309, .slice Ao40 t332.length co40, .slice Ao41 t333.length co41], .int .i64 1] rfl (by (try simp only [List.map_toArray, List.map_cons, List.map_nil]); first | done | (rw [show t332.length = t310.length from (Kd.R_reads' HO_318001.out).1.symm, show t333.length = t313.length from (Kd.R_reads' HO_318002.out).1.symm] <;> rfl) | rfl | (simp only [List.length_drop, List.length_take]; rfl)) ?_; (with_reducible refine (laws_heldPart.calls kj64 t309 _ _ t332 _ _ t333 1 t334 _ ?side1 ?side2 ?side3 ?side4 A97.out).mono ?_); (case side1 => exact zC14 (Kd.R_reads' HO_318001.out).2.2); (case side2 => rw [show t332.length = t310.length from (Kd.R_reads' HO_318001.out).1.symm]; exact (Kd.R_reads' HO_318001.out).2.1); (case side3 => exact zC14 (Kd.R_reads' HO_318002.out).2.2); (case side4 => rw [show t333.length = t313.length from (Kd.R_reads' HO_318002.out).1.symm]; exact (Kd.R_reads' HO_318002.out).2.1); rintro e w116 ⟨rfl, hb⟩; refine ⟨_, rfl, ?_⟩; have n0_ := Aside0.mk (Kd.R_below (zR14 HO_301001.out) hb); have n1_ := Aside0.mk (Kd.R_below (zR14 HO_301002.out) hb); have n2_ := Aside0.mk (Kd.R_below (zR14 HO_309001.out) hb); have n3_ := Aside0.mk (Kd.R_below (zR14 HO_309002.out) hb); have n4_ := Aside0.mk (Kd.R_below (zR14 HO_318001.out) hb); have n5_ := Aside0.mk (Kd.R_below (zR14 HO_318002.out) hb); have n6_ := Aside0.mk (zb14 BK283.out hb); have n7_ := Aside0.mk (zb14 BK300.out hb); have n8_ := Aside0.mk (zb14 BK308.out hb); have n9_ := Aside0.mk (zb14 BK317.out hb); have n10_ := Aside0.mk (below_step (zB14_4) hb); clear HO_301001; clear HO_301002; clear HO_309001; clear HO_309002; clear HO_318001; clear HO_318002; clear BK283; clear BK300; clear BK308; clear BK317; clear HB; have HO_301001 := n0_; have HO_301002 := n1_; have HO_309001 := n2_; have HO_309002 := n3_; have HO_318001 := n4_; have HO_318002 := n5_; have BK283 := n6_; have BK300 := n7_; have BK308 := n8_; have BK317 := n9_; have HB := n10_; clear n0_ n1_ n2_ n3_ n4_ n5_ n6_ n7_ n8_ n9_ n10_; (try clear hb); (try clear hb2); (try clear hk); (try clear hi); have hnb117 := NB283_300.out; have hnc117 := NB300_283.out; have hnb118 := NB283_308.out; have hnc118 := NB308_283.out; obtain ⟨hcz119_0, hcz119_1, hcz119_2, hfz119_0, hfz119_1, hfz119_2⟩ := zc14_3 (w := w116) BK283.out) | ((with_reducible refine gate_callee (f := 26) rfl ?_); refine goesL_ (some 79) rfl rfl Try.func26 (by kernel_rfl) rfl #[.agg #[.string a0_0, .slice A0_1 l0_1.length c0_1, .slice A0_2 l0_2.length c0_2]] rfl zT14 ?_; (with_reducible refine (laws_toPart.calls kj64 a0_0 _ _ l0_1 _ _ l0_2 t335 t336 t339 _ ?side1 ?side2 ?side3 ?side4 A107.out).mono ?_); (case side1 => exact zC14 (Kd.C_below HR0_1.out HB.out)); (case side2 => exact HC0_1.out); (case side3 => exact zC14 (Kd.C_below HR0_2.out HB.out)); (case side4 => exact HC0_2.out); rintro e w120 ⟨v337, v340, rfl, ho0, ho1, hb⟩; refine ⟨_, rfl, ?_⟩; have n0_ := Aside0.mk (Kd.R_elder' (zR14 HO_301001.out) (Kd.R_base ho0) hb); have n1_ := Aside0.mk (Kd.R_elder' (zR14 HO_301002.out) (Kd.R_base ho1) hb); have n2_ := Aside0.mk (Kd.R_elder' (zR14 HO_309001.out) (Kd.R_base ho0) hb); have n3_ := Aside0.mk (Kd.R_elder' (zR14 HO_309002.out) (Kd.R_base ho1) hb); have n4_ := Aside0.mk (Kd.R_elder' (zR14 HO_318001.out) (Kd.R_base ho0) hb); have n5_ := Aside0.mk (Kd.R_elder' (zR14 HO_318002.out) (Kd.R_base ho1) hb); have n6_ := Aside0.mk (Kd.R_lower (Kd.R_new' (Kd.R_new' (Kd.R_new' ho0 (Kd.R_lt (zR14 HO_301001.out))) (Kd.R_lt (zR14 HO_309001.out))) (Kd.R_lt (zR14 HO_318001.out))) (below_size (zB14_4))); have n7_ := Aside0.mk (Kd.R_lower (Kd.R_new' (Kd.R_new' (Kd.R_new' ho1 (Kd.R_lt (zR14 HO_301002.out))) (Kd.R_lt (zR14 HO_309002.out))) (Kd.R_lt (zR14 HO_318002.out))) (below_size (zB14_4))); have n8_ := Aside0.mk (zb14 BK283.out hb); have n9_ := Aside0.mk (zb14 BK300.out hb); have n10_ := Aside0.mk (zb14 BK308.out hb); have n11_ := Aside0.mk (zb14 BK317.out hb); have n12_ := Aside0.mk (below_step (zB14_4) hb); clear HO_301001; clear HO_301002; clear HO_309001; clear HO_309002; clear HO_318001; clear HO_318002; clear BK283; clear BK300; clear BK308; clear BK317; clear HB; have HO_301001 := n0_; have HO_301002 := n1_; have HO_309001 := n2_; have HO_309002 := n3_; have HO_318001 := n4_; have HO_318002 := n5_; have HO338 := n6_; have HO341 := n7_; have BK283 := n8_; have BK300 := n9_; have BK308 := n10_; have BK317 := n11_; have HB := n12_; clear n0_ n1_ n2_ n3_ n4_ n5_ n6_ n7_ n8_ n9_ n10_ n11_ n12_; (try clear hb); (try clear hb2); (try clear hk); (try clear hi); (try clear ho0); (try clear ho1); obtain ⟨Ao121, co121, eo121⟩ := Kd.R_slice HO338.out; subst eo121; obtain ⟨Ao122, co122, eo122⟩ := Kd.R_slice HO341.out; subst eo122) | ((with_reducible refine gate_callee (f := 30) rfl ?_); refine goesL_ (some 81) rfl rfl Try.func30 (by kernel_rfl) rfl #[.agg #[.string t335, .slice Ao121 t336.length co121, .slice Ao122 t339.length co122], .int .i64 a1] rfl zT14 ?_; (with_reducible refine (impl_Moved.calls kj64 t335 _ _ t336 _ _ t339 a1 t342 t343 t346 t349 _ ?side1 ?side2 ?side3 ?side4 A108.out).mono ?_); (case side1 => exact zC14 (Kd.R_reads' HO338.out).2.2); (case side2 => exact (Kd.R_reads' HO338.out).2.1); (case side3 => exact zC14 (Kd.R_reads' HO341.out).2.2); (case side4 => exact (Kd.R_reads' HO341.out).2.1); rintro e w123 ⟨v344, v347, rfl, ho0, ho1, hb⟩; refine ⟨_, rfl, ?_⟩; have n0_ := Aside0.mk (Kd.R_elder' (zR14 HO_301001.out) (Kd.R_base ho0) hb); have n1_ := Aside0.mk (Kd.R_elder' (zR14 HO_301002.out) (Kd.R_base ho1) hb); have n2_ := Aside0.mk (Kd.R_elder' (zR14 HO_309001.out) (Kd.R_base ho0) hb); have n3_ := Aside0.mk (Kd.R_elder' (zR14 HO_309002.out) (Kd.R_base ho1) hb); have n4_ := Aside0.mk (Kd.R_elder' (zR14 HO_318001.out) (Kd.R_base ho0) hb); have n5_ := Aside0.mk (Kd.R_elder' (zR14 HO_318002.out) (Kd.R_base ho1) hb); have n6_ := Aside0.mk (Kd.R_elder' (zR14 HO338.out) (Kd.R_base ho0) hb); have n7_ := Aside0.mk (Kd.R_elder' (zR14 HO341.out) (Kd.R_base ho1) hb); have n8_ := Aside0.mk (Kd.R_lower (Kd.R_new' (Kd.R_new' (Kd.R_new' (Kd.R_new' ho0 (Kd.R_lt (zR14 HO_301001.out))) (Kd.R_lt (zR14 HO_309001.out))) (Kd.R_lt (zR14 HO_318001.out))) (Kd.R_lt (zR14 HO338.out))) (below_size (zB14_4))); have n9_ := Aside0.mk (Kd.R_lower (Kd.R_new' (Kd.R_new' (Kd.R_new' (Kd.R_new' ho1 (Kd.R_lt (zR14 HO_301002.out))) (Kd.R_lt (zR14 HO_309002.out))) (Kd.R_lt (zR14 HO_318002.out))) (Kd.R_lt (zR14 HO341.out))) (below_size (zB14_4))); have n10_ := Aside0.mk (zb14 BK283.out hb); have n11_ := Aside0.mk (zb14 BK300.out hb); have n12_ := Aside0.mk (zb14 BK308.out hb); have n13_ := Aside0.mk (zb14 BK317.out hb); have n14_ := Aside0.mk (below_step (zB14_4) hb); clear HO_301001; clear HO_301002; clear HO_309001; clear HO_309002; clear HO_318001; clear HO_318002; clear HO338; clear HO341; clear BK283; clear BK300; clear BK308; clear BK317; clear HB; have HO_301001 := n0_; have HO_301002 := n1_; have HO_309001 := n2_; have HO_309002 := n3_; have HO_318001 := n4_; have HO_318002 := n5_; have HO338 := n6_; have HO341 := n7_; have HO345 := n8_; have HO348 := n9_; have BK283 := n10_; have BK300 := n11_; have BK308 := n12_; have BK317 := n13_; have HB := n14_; clear n0_ n1_ n2_ n3_ n4_ n5_ n6_ n7_ n8_ n9_ n10_ n11_ n12_ n13_ n14_; (try clear hb); (try clear hb2); (try clear hk); (try clear hi); (try clear ho0); (try clear ho1)) | ((with_reducible refine gate_dst (N := 14) rfl ?_); refine box_event ?hg (N := 14) ?hd (cs := #[.string (⟨#[]⟩ : ByteArray), .slice none 0 0, .slice none 0 0]) (t := 45) ?hr ?_; (case hd => rfl); (case hg => rfl); (case hr => first | (go_simp; done) | (go_simp; rfl)); intro gb350 hg w124 hbox hb; have n0_ := Aside0.mk (Kd.R_below (zR14 HO_301001.out) hb); have n1_ := Aside0.mk (Kd.R_below (zR14 HO_301002.out) hb); have n2_ := Aside0.mk (Kd.R_below (zR14 HO_309001.out) hb); have n3_ := Aside0.mk (Kd.R_below (zR14 HO_309002.out) hb); have n4_ := Aside0.mk (Kd.R_below (zR14 HO_318001.out) hb); have n5_ := Aside0.mk (Kd.R_below (zR14 HO_318002.out) hb); have n6_ := Aside0.mk (Kd.R_below (zR14 HO338.out) hb); have n7_ := Aside0.mk (Kd.R_below (zR14 HO341.out) hb); have n8_ := Aside0.mk (Kd.R_below (zR14 HO345.out) hb); have n9_ := Aside0.mk (Kd.R_below (zR14 HO348.out) hb); have n10_ := Aside0.mk (zb14 BK283.out hb); have n11_ := Aside0.mk (zb14 BK300.out hb); have n12_ := Aside0.mk (zb14 BK308.out hb); have n13_ := Aside0.mk (zb14 BK317.out hb); have n14_ := Aside0.mk (below_step (zB14_4) hb); have n15_ := Aside0.mk (hbox); have n16_ := Aside0.mk ((by rw [hg]; exact (below_size (zB14_4)) : w.heap.size ≤ gb350)); have n17_ := Aside0.mk ((by rw [hg]; exact (below_size (zB14_4)) : w.heap.size ≤ gb350)); have n18_ := Aside0.mk ((zn14 BK283.out hg : gb283 ≠ gb350)); have n19_ := Aside0.mk ((zm14 BK283.out hg : gb350 ≠ gb283)); have n20_ := Aside0.mk ((zn14 BK300.out hg : gb300 ≠ gb350)); have n21_ := Aside0.mk ((zm14 BK300.out hg : gb350 ≠ gb300)); have n22_ := Aside0.mk ((zn14 BK308.out hg : gb308 ≠ gb350)); have n23_ := Aside0.mk ((zm14 BK308.out hg : gb350 ≠ gb308)); have n24_ := Aside0.mk ((zn14 BK317.out hg : gb317 ≠ gb350)); have n25_ := Aside0.mk ((zm14 BK317.out hg : gb350 ≠ gb317)); clear HO_301001; clear HO_301002; clear HO_309001; clear HO_309002; clear HO_318001; clear HO_318002; clear HO338; clear HO341; clear HO345; clear HO348; clear BK283; clear BK300; clear BK308; clear BK317; clear HB; have HO_301001 := n0_; have HO_301002 := n1_; have HO_309001 := n2_; have HO_309002 := n3_; have HO_318001 := n4_; have HO_318002 := n5_; have HO338 := n6_; have HO341 := n7_; have HO345 := n8_; have HO348 := n9_; have BK283 := n10_; have BK300 := n11_; have BK308 := n12_; have BK317 := n13_; have HB := n14_; have BK350 := n15_; have GW350 := n16_; have GE350 := n17_; have NB283_350 := n18_; have NB350_283 := n19_; have NB300_350 := n20_; have NB350_300 := n21_; have NB308_350 := n22_; have NB350_308 := n23_; have NB317_350 := n24_; have NB350_317 := n25_; clear n0_ n1_ n2_ n3_ n4_ n5_ n6_ n7_ n8_ n9_ n10_ n11_ n12_ n13_ n14_ n15_ n16_ n17_ n18_ n19_ n20_ n21_ n22_ n23_ n24_ n25_; clear hb hbox hg; have hnb125 := NB350_283.out; have hnc125 := NB283_350.out; have hnb126 := NB350_300.out; have hnc126 := NB300_350.out; have hnb127 := NB350_308.out; have hnc127 := NB308_350.out; have hnb128 := NB350_317.out; have hnc128 := NB317_350.out; obtain ⟨hcz129_0, hcz129_1, hcz129_2, hfz129_0, hfz129_1, hfz129_2⟩ := zc14_3 (w := w124) BK350.out; obtain ⟨Ao130, co130, eo130⟩ := Kd.R_slice HO345.out; subst eo130; obtain ⟨Ao131, co131, eo131⟩ := Kd.R_slice HO348.out; subst eo131))
     (try simp only [Act.put, List.setIfInBounds_toArray, List.set_cons_zero, List.set_cons_succ])
     go_cut [92] (fun v92 wc => ∃ (kq : Nat) (x92_108 : Bool), v92 = .bool x92_108 ∧ Aside0 (laws_FnExactMoved.j2 kq t331 x92_108 t309 t332 t333 = some r) ∧ Aside0 (kq ≤ kj64) ∧ Aside0 (Kd.R k54 54 wc w.heap.size (fun k_ => some k_ ≠ ((.slice Ao32 t328.length co32) : Value).ownBlock ∧ some k_ ≠ ((.slice Ao40 t310.length co40) : Value).ownBlock ∧ some k_ ≠ ((.slice Ao130 t343.length co130) : Value).ownBlock) (.slice Ao24 t293.length co24) t293) ∧ Aside0 (Kd.R k87 87 wc w.heap.size (fun k_ => some k_ ≠ ((.slice Ao33 t329.length co33) : Value).ownBlock ∧ some k_ ≠ ((.slice Ao41 t313.length co41) : Value).ownBlock ∧ some k_ ≠ ((.slice Ao131 t346.length co131) : Value).ownBlock) (.slice Ao25 t296.length co25) t296) ∧ Aside0 (Kd.R k54 54 wc w.heap.size (fun k_ => some k_ ≠ ((.slice Ao24 t293.length co24) : Value).ownBlock ∧ some k_ ≠ ((.slice Ao40 t310.length co40) : Value).ownBlock ∧ some k_ ≠ ((.slice Ao130 t343.length co130) : Value).ownBlock) (.slice Ao32 t328.length co32) t328) ∧ Aside0 (Kd.R k87 87 wc w.heap.size (fun k_ => some k_ ≠ ((.slice Ao25 t296.length co25) : Value).ownBlock ∧ some k_ ≠ ((.slice Ao41 t313.length co41) : Value).ownBlock ∧ some k_ ≠ ((.slice Ao131 t346.length co131) : Value).ownBlock) (.slice Ao33 t329.length co33) t329) ∧ Aside0 (Kd.R k54 54 wc w.heap.size (fun k_ => some k_ ≠ ((.slice Ao24 t293.length co24) : Value).ownBlock ∧ some k_ ≠ ((.slice Ao32 t328.length co32) : Value).ownBlock ∧ some k_ ≠ ((.slice Ao130 t343.length co130) : Value).ownBlock) (.slice Ao40 t310.length co40) t332) ∧ Aside0 (Kd.R k87 87 wc w.heap.size (fun k_ => some k_ ≠ ((.slice Ao25 t296.length co25) : Value).ownBlock ∧ some k_ ≠ ((.slice Ao33 t329.length co33) : Value).ownBlock ∧ some k_ ≠ ((.slice Ao131 t346.length co131) : Value).ownBlock) (.slice Ao41 t313.length co41) t333) ∧ Aside0 (Kd.R k54 54 wc w.heap.size (fun k_ => some k_ ≠ ((.slice Ao24 t293.length co24) : Value).ownBlock ∧ some k_ ≠ ((.slice Ao32 t328.length co32) : Value).ownBlock ∧ some k_ ≠ ((.slice Ao40 t310.length co40) : Value).ownBlock) (.slice Ao130 t343.length co130) t343) ∧ Aside0 (Kd.R k87 87 wc w.heap.size (fun k_ => some k_ ≠ ((.slice Ao25 t296.length co25) : Value).ownBlock ∧ some k_ ≠ ((.slice Ao33 t329.length co33) : Value).ownBlock ∧ some k_ ≠ ((.slice Ao41 t313.length co41) : Value).ownBlock) (.slice Ao131 t346.length co131) t346) ∧ Aside0 (wc.heap[gb283]? = some (.cells #[.string a0_0, (.slice A0_1 l0_1.length c0_1), (.slice A0_2 l0_2.length c0_2)] 39 (0, 0))) ∧ Aside0 (wc.heap[gb300]? = some (.cells #[.string t292, (.slice Ao24 t293.length co24), (.slice Ao25 t296.length co25)] 45 (0, 0))) ∧ Aside0 (wc.heap[gb308]? = some (.cells #[.string t301, (.slice Ao32 t328.length co32), (.slice Ao33 t329.length co33)] 45 (0, 0))) ∧ Aside0 (wc.heap[gb317]? = some (.cells #[.string t309, (.slice Ao40 t310.length co40), (.slice Ao41 t313.length co41)] 45 (0, 0))) ∧ Aside0 (wc.heap[gb350]? = some (.cells #[.string t342, (.slice Ao130 t343.length co130), (.slice Ao131 t346.length co131)] 45 (0, 0))) ∧ Aside0 (Below w.heap.size w wc))
     case first =>
      have H := HC109.out
      clear HC109
      replace H := Option.bind_eq_some_iff.mp H
      obtain ⟨t351, A1320, H⟩ := H
      replace H : (if t351 = true then (laws_FnExactMoved.j2 kj64 t331 (t349 != t299) t309 t332 t333) else (laws_FnExactMoved.j2 kj64 t331 true t309 t332 t333)) = some r := H
      have A132 := Aside0.mk A1320
      clear A1320
      by_cases c133 : t351 = true
      ·subst c133
       have H1 : (laws_FnExactMoved.j2 kj64 t331 (t349 != t299) t309 t332 t333) = some r := by rw [if_pos rfl] at H; exact H
       clear H
       have H := H1
       clear H1
       have H' := Aside0.mk H
       clear H
       have hnb134 := NB350_283.out
       have hnc134 := NB283_350.out
       have hnb135 := NB350_300.out
       have hnc135 := NB300_350.out
       have hnb136 := NB350_308.out
       have hnc136 := NB308_350.out
       have hnb137 := NB350_317.out
       have hnc137 := NB317_350.out
       obtain ⟨hcz138_0, hcz138_1, hcz138_2, hfz138_0, hfz138_1, hfz138_2⟩ := zc14_3 (w := w124) BK350.out
       have hnb139 := NB300_283.out
       have hnc139 := NB283_300.out
       have hnb140 := NB300_308.out
       have hnc140 := NB308_300.out
       have hnb141 := NB300_317.out
       have hnc141 := NB317_300.out
       obtain ⟨hcz142_0, hcz142_1, hcz142_2, hfz142_0, hfz142_1, hfz142_2⟩ := zc14_3 (w := w124) BK300.out
       go_wp2_with (first | ((with_reducible refine gate_callee (f := 28) rfl ?_); refine goesL_ (some 86) rfl rfl Try.func28 (by kernel_rfl) rfl #[.agg #[.string t342, .slice Ao130 t343.length co130, .slice Ao131 t346.length co131], .agg #[.string t292, .slice Ao24 t293.length co24, .slice Ao25 t296.length co25]] rfl zT14 ?_; (with_reducible refine (laws_eqPart.calls kj64 t342 _ _ t343 _ _ t346 t292 _ _ t293 _ _ t296 true _ ?side1 ?side2 ?side3 ?side4 ?side5 ?side6 ?side7 ?side8 A132.out).mono ?_); (case side1 => refine (Kd.R_reads' (e := 54) (base := w.heap.size) (ok := fun k_ => ((((True ∧ some k_ ≠ (.slice Ao24 t293.length co24 : Value).ownBlock) ∧ some k_ ≠ (.slice Ao32 t328.length co32 : Value).ownBlock) ∧ some k_ ≠ (.slice Ao40 t310.length co40 : Value).ownBlock) ∧ some k_ ≠ (.slice Ao121 t336.length co121 : Value).ownBlock)) (n := t343.length) (c := co130) ?_).2.2; exact (by (with_reducible repeat (first | apply Kd.R_alloc | apply Kd.R_drewN | apply Kd.R_drew)); exact (Kd.R_mono (Kd.R_far (p := ⟨gb350, 2, none⟩) (Kd.R_far (p := ⟨gb350, 1, none⟩) (Kd.R_far (p := ⟨gb350, 0, none⟩) (Kd.R_types HO345.out BK350.out (by decide)) (fun _ hk => hk.2) (.string t342)) (fun _ hk => hk.2) (.slice Ao130 t343.length co130)) (fun _ hk => hk.2) (.slice Ao131 t346.length co131)) (fun _ h_ => h_.1)))); (case side2 => exact (Kd.R_reads' HO345.out).2.1); (case side3 => refine (Kd.R_reads' (e := 87) (base := w.heap.size) (ok := fun k_ => ((((True ∧ some k_ ≠ (.slice Ao25 t296.length co25 : Value).ownBlock) ∧ some k_ ≠ (.slice Ao33 t329.length co33 : Value).ownBlock) ∧ some k_ ≠ (.slice Ao41 t313.length co41 : Value).ownBlock) ∧ some k_ ≠ (.slice Ao122 t339.length co122 : Value).ownBlock)) (n := t346.length) (c := co131) ?_).2.2; exact (by (with_reducible repeat (first | apply Kd.R_alloc | apply Kd.R_drewN | apply Kd.R_drew)); exact (Kd.R_mono (Kd.R_far (p := ⟨gb350, 2, none⟩) (Kd.R_far (p := ⟨gb350, 1, none⟩) (Kd.R_far (p := ⟨gb350, 0, none⟩) (Kd.R_types HO348.out BK350.out (by decide)) (fun _ hk => hk.2) (.string t342)) (fun _ hk => hk.2) (.slice Ao130 t343.length co130)) (fun _ hk => hk.2) (.slice Ao131 t346.length co131)) (fun _ h_ => h_.1)))); (case side4 => exact (Kd.R_reads' HO348.out).2.1); (case side5 => refine (Kd.R_reads' (e := 54) (base := w.heap.size) (ok := fun k_ => (((some k_ ≠ (.slice Ao32 t328.length co32 : Value).ownBlock ∧ some k_ ≠ (.slice Ao40 t310.length co40 : Value).ownBlock) ∧ some k_ ≠ (.slice Ao121 t336.length co121 : Value).ownBlock) ∧ some k_ ≠ (.slice Ao130 t343.length co130 : Value).ownBlock)) (n := t293.length) (c := co24) ?_).2.2; exact (by (with_reducible repeat (first | apply Kd.R_alloc | apply Kd.R_drewN | apply Kd.R_drew)); exact (Kd.R_mono (Kd.R_far (p := ⟨gb350, 2, none⟩) (Kd.R_far (p := ⟨gb350, 1, none⟩) (Kd.R_far (p := ⟨gb350, 0, none⟩) (Kd.R_types HO_301001.out BK350.out (by decide)) (fun _ hk => hk.2) (.string t342)) (fun _ hk => hk.2) (.slice Ao130 t343.length co130)) (fun _ hk => hk.2) (.slice Ao131 t346.length co131)) (fun _ h_ => h_.1)))); (case side6 => exact (Kd.R_reads' HO_301001.out).2.1); (case side7 => refine (Kd.R_reads' (e := 87) (base := w.heap.size) (ok := fun k_ => (((some k_ ≠ (.slice Ao33 t329.length co33 : Value).ownBlock ∧ some k_ ≠ (.slice Ao41 t313.length co41 : Value).ownBlock) ∧ some k_ ≠ (.slice Ao122 t339.length co122 : Value).ownBlock) ∧ some k_ ≠ (.slice Ao131 t346.length co131 : Value).ownBlock)) (n := t296.length) (c := co25) ?_).2.2; exact (by (with_reducible repeat (first | apply Kd.R_alloc | apply Kd.R_drewN | apply Kd.R_drew)); exact (Kd.R_mono (Kd.R_far (p := ⟨gb350, 2, none⟩) (Kd.R_far (p := ⟨gb350, 1, none⟩) (Kd.R_far (p := ⟨gb350, 0, none⟩) (Kd.R_types HO_301002.out BK350.out (by decide)) (fun _ hk => hk.2) (.string t342)) (fun _ hk => hk.2) (.slice Ao130 t343.length co130)) (fun _ hk => hk.2) (.slice Ao131 t346.length co131)) (fun _ h_ => h_.1)))); (case side8 => exact (Kd.R_reads' HO_301002.out).2.1); rintro e w143 ⟨rfl, hb⟩; refine ⟨_, rfl, ?_⟩; have n0_ := Aside0.mk (Kd.R_below (by (with_reducible repeat (first | apply Kd.R_alloc | apply Kd.R_drewN | apply Kd.R_drew)); exact (Kd.R_mono (Kd.R_far (p := ⟨gb350, 2, none⟩) (Kd.R_far (p := ⟨gb350, 1, none⟩) (Kd.R_far (p := ⟨gb350, 0, none⟩) (Kd.R_types HO_301001.out BK350.out (by decide)) (fun _ hk => hk.2) (.string t342)) (fun _ hk => hk.2) (.slice Ao130 t343.length co130)) (fun _ hk => hk.2) (.slice Ao131 t346.length co131)) (fun _ h_ => h_.1))) hb); have n1_ := Aside0.mk (Kd.R_below (by (with_reducible repeat (first | apply Kd.R_alloc | apply Kd.R_drewN | apply Kd.R_drew)); exact (Kd.R_mono (Kd.R_far (p := ⟨gb350, 2, none⟩) (Kd.R_far (p := ⟨gb350, 1, none⟩) (Kd.R_far (p := ⟨gb350, 0, none⟩) (Kd.R_types HO_301002.out BK350.out (by decide)) (fun _ hk => hk.2) (.string t342)) (fun _ hk => hk.2) (.slice Ao130 t343.length co130)) (fun _ hk => hk.2) (.slice Ao131 t346.length co131)) (fun _ h_ => h_.1))) hb); have n2_ := Aside0.mk (Kd.R_below (by (with_reducible repeat (first | apply Kd.R_alloc | apply Kd.R_drewN | apply Kd.R_drew)); exact (Kd.R_mono (Kd.R_far (p := ⟨gb350, 2, none⟩) (Kd.R_far (p := ⟨gb350, 1, none⟩) (Kd.R_far (p := ⟨gb350, 0, none⟩) (Kd.R_types HO_309001.out BK350.out (by decide)) (fun _ hk => hk.2) (.string t342)) (fun _ hk => hk.2) (.slice Ao130 t343.length co130)) (fun _ hk => hk.2) (.slice Ao131 t346.length co131)) (fun _ h_ => h_.1))) hb); have n3_ := Aside0.mk (Kd.R_below (by (with_reducible repeat (first | apply Kd.R_alloc | apply Kd.R_drewN | apply Kd.R_drew)); exact (Kd.R_mono (Kd.R_far (p := ⟨gb350, 2, none⟩) (Kd.R_far (p := ⟨gb350, 1, none⟩) (Kd.R_far (p := ⟨gb350, 0, none⟩) (Kd.R_types HO_309002.out BK350.out (by decide)) (fun _ hk => hk.2) (.string t342)) (fun _ hk => hk.2) (.slice Ao130 t343.length co130)) (fun _ hk => hk.2) (.slice Ao131 t346.length co131)) (fun _ h_ => h_.1))) hb); have n4_ := Aside0.mk (Kd.R_below (by (with_reducible repeat (first | apply Kd.R_alloc | apply Kd.R_drewN | apply Kd.R_drew)); exact (Kd.R_mono (Kd.R_far (p := ⟨gb350, 2, none⟩) (Kd.R_far (p := ⟨gb350, 1, none⟩) (Kd.R_far (p := ⟨gb350, 0, none⟩) (Kd.R_types HO_318001.out BK350.out (by decide)) (fun _ hk => hk.2) (.string t342)) (fun _ hk => hk.2) (.slice Ao130 t343.length co130)) (fun _ hk => hk.2) (.slice Ao131 t346.length co131)) (fun _ h_ => h_.1))) hb); have n5_ := Aside0.mk (Kd.R_below (by (with_reducible repeat (first | apply Kd.R_alloc | apply Kd.R_drewN | apply Kd.R_drew)); exact (Kd.R_mono (Kd.R_far (p := ⟨gb350, 2, none⟩) (Kd.R_far (p := ⟨gb350, 1, none⟩) (Kd.R_far (p := ⟨gb350, 0, none⟩) (Kd.R_types HO_318002.out BK350.out (by decide)) (fun _ hk => hk.2) (.string t342)) (fun _ hk => hk.2) (.slice Ao130 t343.length co130)) (fun _ hk => hk.2) (.slice Ao131 t346.length co131)) (fun _ h_ => h_.1))) hb); have n6_ := Aside0.mk (Kd.R_below (by (with_reducible repeat (first | apply Kd.R_alloc | apply Kd.R_drewN | apply Kd.R_drew)); exact (Kd.R_mono (Kd.R_far (p := ⟨gb350, 2, none⟩) (Kd.R_far (p := ⟨gb350, 1, none⟩) (Kd.R_far (p := ⟨gb350, 0, none⟩) (Kd.R_types HO338.out BK350.out (by decide)) (fun _ hk => hk.2) (.string t342)) (fun _ hk => hk.2) (.slice Ao130 t343.length co130)) (fun _ hk => hk.2) (.slice Ao131 t346.length co131)) (fun _ h_ => h_.1))) hb); have n7_ := Aside0.mk (Kd.R_below (by (with_reducible repeat (first | apply Kd.R_alloc | apply Kd.R_drewN | apply Kd.R_drew)); exact (Kd.R_mono (Kd.R_far (p := ⟨gb350, 2, none⟩) (Kd.R_far (p := ⟨gb350, 1, none⟩) (Kd.R_far (p := ⟨gb350, 0, none⟩) (Kd.R_types HO341.out BK350.out (by decide)) (fun _ hk => hk.2) (.string t342)) (fun _ hk => hk.2) (.slice Ao130 t343.length co130)) (fun _ hk => hk.2) (.slice Ao131 t346.length co131)) (fun _ h_ => h_.1))) hb); have n8_ := Aside0.mk (Kd.R_below (by (with_reducible repeat (first | apply Kd.R_alloc | apply Kd.R_drewN | apply Kd.R_drew)); exact (Kd.R_mono (Kd.R_far (p := ⟨gb350, 2, none⟩) (Kd.R_far (p := ⟨gb350, 1, none⟩) (Kd.R_far (p := ⟨gb350, 0, none⟩) (Kd.R_types HO345.out BK350.out (by decide)) (fun _ hk => hk.2) (.string t342)) (fun _ hk => hk.2) (.slice Ao130 t343.length co130)) (fun _ hk => hk.2) (.slice Ao131 t346.length co131)) (fun _ h_ => h_.1))) hb); have n9_ := Aside0.mk (Kd.R_below (by (with_reducible repeat (first | apply Kd.R_alloc | apply Kd.R_drewN | apply Kd.R_drew)); exact (Kd.R_mono (Kd.R_far (p := ⟨gb350, 2, none⟩) (Kd.R_far (p := ⟨gb350, 1, none⟩) (Kd.R_far (p := ⟨gb350, 0, none⟩) (Kd.R_types HO348.out BK350.out (by decide)) (fun _ hk => hk.2) (.string t342)) (fun _ hk => hk.2) (.slice Ao130 t343.length co130)) (fun _ hk => hk.2) (.slice Ao131 t346.length co131)) (fun _ h_ => h_.1))) hb); have n10_ := Aside0.mk (blk_below (g := gb283) (o := .cells #[.string a0_0, .slice A0_1 l0_1.length c0_1, .slice A0_2 l0_2.length c0_2] 39 (0, 0)) (by refine zP14 ?_; refine blk_far ?_ NB283_350.out _; refine zP14 ?_; refine blk_far ?_ NB283_350.out _; refine zP14 ?_; refine blk_far ?_ NB283_350.out _; refine zP14 ?_; exact BK283.out) hb); have n11_ := Aside0.mk (blk_below (g := gb300) (o := .cells #[.string t292, .slice Ao24 t293.length co24, .slice Ao25 t296.length co25] 45 (0, 0)) (by refine zP14 ?_; refine blk_far ?_ NB300_350.out _; refine zP14 ?_; refine blk_far ?_ NB300_350.out _; refine zP14 ?_; refine blk_far ?_ NB300_350.out _; refine zP14 ?_; exact BK300.out) hb); have n12_ := Aside0.mk (blk_below (g := gb308) (o := .cells #[.string t301, .slice Ao32 t328.length co32, .slice Ao33 t329.length co33] 45 (0, 0)) (by refine zP14 ?_; refine blk_far ?_ NB308_350.out _; refine zP14 ?_; refine blk_far ?_ NB308_350.out _; refine zP14 ?_; refine blk_far ?_ NB308_350.out _; refine zP14 ?_; exact BK308.out) hb); have n13_ := Aside0.mk (blk_below (g := gb317) (o := .cells #[.string t309, .slice Ao40 t310.length co40, .slice Ao41 t313.length co41] 45 (0, 0)) (by refine zP14 ?_; refine blk_far ?_ NB317_350.out _; refine zP14 ?_; refine blk_far ?_ NB317_350.out _; refine zP14 ?_; refine blk_far ?_ NB317_350.out _; refine zP14 ?_; exact BK317.out) hb); have n14_ := Aside0.mk (blk_below (g := gb350) (o := .cells #[.string t342, .slice Ao130 t343.length co130, .slice Ao131 t346.length co131] 45 (0, 0)) (by refine zP14 ?_; refine blk_put (cs := #[.string t342, .slice Ao130 t343.length co130, .slice none 0 0]) ?_ 2 _ rfl; refine zP14 ?_; refine blk_put (cs := #[.string t342, .slice none 0 0, .slice none 0 0]) ?_ 1 _ rfl; refine zP14 ?_; refine blk_put (cs := #[.string (⟨#[]⟩ : ByteArray), .slice none 0 0, .slice none 0 0]) ?_ 0 _ rfl; refine zP14 ?_; exact BK350.out) hb); have n15_ := Aside0.mk (below_step (zB14_5) hb); clear HO_301001; clear HO_301002; clear HO_309001; clear HO_309002; clear HO_318001; clear HO_318002; clear HO338; clear HO341; clear HO345; clear HO348; clear BK283; clear BK300; clear BK308; clear BK317; clear BK350; clear HB; have HO_301001 := n0_; have HO_301002 := n1_; have HO_309001 := n2_; have HO_309002 := n3_; have HO_318001 := n4_; have HO_318002 := n5_; have HO338 := n6_; have HO341 := n7_; have HO345 := n8_; have HO348 := n9_; have BK283 := n10_; have BK300 := n11_; have BK308 := n12_; have BK317 := n13_; have BK350 := n14_; have HB := n15_; clear n0_ n1_ n2_ n3_ n4_ n5_ n6_ n7_ n8_ n9_ n10_ n11_ n12_ n13_ n14_ n15_; (try clear hb); (try clear hb2); (try clear hk); (try clear hi)))
       go_meet
       case rel => exact ⟨_, ((t349 != t299)), (by first | rfl | (simp; done) | (simp [*]; done)), H', ⟨by have := HJ11.out; have := HJ64.out; first | omega | exact Nat.le_refl _⟩, ⟨by (try simp only [hl309001_64]); (try simp only [hl309002_64]); (with_reducible repeat (first | apply Kd.R_alloc | apply Kd.R_drewN | apply Kd.R_drew)); exact Kd.R_mono HO_301001.out (fun _ hk => ⟨hk.1.1.1, ⟨hk.1.1.2, hk.2⟩⟩)⟩, ⟨by (try simp only [hl309001_64]); (try simp only [hl309002_64]); (with_reducible repeat (first | apply Kd.R_alloc | apply Kd.R_drewN | apply Kd.R_drew)); exact Kd.R_mono HO_301002.out (fun _ hk => ⟨hk.1.1.1, ⟨hk.1.1.2, hk.2⟩⟩)⟩, ⟨by (try simp only [hl309001_64]); (try simp only [hl309002_64]); (with_reducible repeat (first | apply Kd.R_alloc | apply Kd.R_drewN | apply Kd.R_drew)); exact Kd.R_mono HO_309001.out (fun _ hk => ⟨hk.1.1.1, ⟨hk.1.1.2, hk.2⟩⟩)⟩, ⟨by (try simp only [hl309001_64]); (try simp only [hl309002_64]); (with_reducible repeat (first | apply Kd.R_alloc | apply Kd.R_drewN | apply Kd.R_drew)); exact Kd.R_mono HO_309002.out (fun _ hk => ⟨hk.1.1.1, ⟨hk.1.1.2, hk.2⟩⟩)⟩, ⟨by (try simp only [hl309001_64]); (try simp only [hl309002_64]); (with_reducible repeat (first | apply Kd.R_alloc | apply Kd.R_drewN | apply Kd.R_drew)); exact Kd.R_mono HO_318001.out (fun _ hk => ⟨hk.1.1.1, ⟨hk.1.1.2, hk.2⟩⟩)⟩, ⟨by (try simp only [hl309001_64]); (try simp only [hl309002_64]); (with_reducible repeat (first | apply Kd.R_alloc | apply Kd.R_drewN | apply Kd.R_drew)); exact Kd.R_mono HO_318002.out (fun _ hk => ⟨hk.1.1.1, ⟨hk.1.1.2, hk.2⟩⟩)⟩, ⟨by (try simp only [hl309001_64]); (try simp only [hl309002_64]); (with_reducible repeat (first | apply Kd.R_alloc | apply Kd.R_drewN | apply Kd.R_drew)); exact Kd.R_mono HO345.out (fun _ hk => ⟨hk.1.1.1.2, ⟨hk.1.1.2, hk.1.2⟩⟩)⟩, ⟨by (try simp only [hl309001_64]); (try simp only [hl309002_64]); (with_reducible repeat (first | apply Kd.R_alloc | apply Kd.R_drewN | apply Kd.R_drew)); exact Kd.R_mono HO348.out (fun _ hk => ⟨hk.1.1.1.2, ⟨hk.1.1.2, hk.1.2⟩⟩)⟩, ⟨by (try simp only [hl309001_64]); (try simp only [hl309002_64]); refine zP14 ?_; exact BK283.out⟩, ⟨by (try simp only [hl309001_64]); (try simp only [hl309002_64]); refine zP14 ?_; exact BK300.out⟩, ⟨by (try simp only [hl309001_64]); (try simp only [hl309002_64]); refine zP14 ?_; exact BK308.out⟩, ⟨by (try simp only [hl309001_64]); (try simp only [hl309002_64]); refine zP14 ?_; exact BK317.out⟩, ⟨by (try simp only [hl309001_64]); (try simp only [hl309002_64]); refine zP14 ?_; exact BK350.out⟩, ⟨zB14_5⟩⟩
      replace c133 := Bool.eq_false_iff.mpr c133
      subst c133
      have H1 : (laws_FnExactMoved.j2 kj64 t331 true t309 t332 t333) = some r := by rw [if_neg (show ¬ (false = true) by decide)] at H; exact H
      clear H
      have H := H1
      clear H1
      have H' := Aside0.mk H
      clear H
      have hnb144 := NB350_283.out
      have hnc144 := NB283_350.out
      have hnb145 := NB350_300.out
      have hnc145 := NB300_350.out
      have hnb146 := NB350_308.out
      have hnc146 := NB308_350.out
      have hnb147 := NB350_317.out
      have hnc147 := NB317_350.out
      obtain ⟨hcz148_0, hcz148_1, hcz148_2, hfz148_0, hfz148_1, hfz148_2⟩ := zc14_3 (w := w124) BK350.out
      have hnb149 := NB300_283.out
      have hnc149 := NB283_300.out
      have hnb150 := NB300_308.out
      have hnc150 := NB308_300.out
      have hnb151 := NB300_317.out
      have hnc151 := NB317_300.out
      obtain ⟨hcz152_0, hcz152_1, hcz152_2, hfz152_0, hfz152_1, hfz152_2⟩ := zc14_3 (w := w124) BK300.out
      go_wp2_with (first | ((with_reducible refine gate_callee (f := 28) rfl ?_); refine goesL_ (some 86) rfl rfl Try.func28 (by kernel_rfl) rfl #[.agg #[.string t342, .slice Ao130 t343.length co130, .slice Ao131 t346.length co131], .agg #[.string t292, .slice Ao24 t293.length co24, .slice Ao25 t296.length co25]] rfl zT14 ?_; (with_reducible refine (laws_eqPart.calls kj64 t342 _ _ t343 _ _ t346 t292 _ _ t293 _ _ t296 false _ ?side1 ?side2 ?side3 ?side4 ?side5 ?side6 ?side7 ?side8 A132.out).mono ?_); (case side1 => refine (Kd.R_reads' (e := 54) (base := w.heap.size) (ok := fun k_ => ((((True ∧ some k_ ≠ (.slice Ao24 t293.length co24 : Value).ownBlock) ∧ some k_ ≠ (.slice Ao32 t328.length co32 : Value).ownBlock) ∧ some k_ ≠ (.slice Ao40 t310.length co40 : Value).ownBlock) ∧ some k_ ≠ (.slice Ao121 t336.length co121 : Value).ownBlock)) (n := t343.length) (c := co130) ?_).2.2; exact (by (with_reducible repeat (first | apply Kd.R_alloc | apply Kd.R_drewN | apply Kd.R_drew)); exact (Kd.R_mono (Kd.R_far (p := ⟨gb350, 2, none⟩) (Kd.R_far (p := ⟨gb350, 1, none⟩) (Kd.R_far (p := ⟨gb350, 0, none⟩) (Kd.R_types HO345.out BK350.out (by decide)) (fun _ hk => hk.2) (.string t342)) (fun _ hk => hk.2) (.slice Ao130 t343.length co130)) (fun _ hk => hk.2) (.slice Ao131 t346.length co131)) (fun _ h_ => h_.1)))); (case side2 => exact (Kd.R_reads' HO345.out).2.1); (case side3 => refine (Kd.R_reads' (e := 87) (base := w.heap.size) (ok := fun k_ => ((((True ∧ some k_ ≠ (.slice Ao25 t296.length co25 : Value).ownBlock) ∧ some k_ ≠ (.slice Ao33 t329.length co33 : Value).ownBlock) ∧ some k_ ≠ (.slice Ao41 t313.length co41 : Value).ownBlock) ∧ some k_ ≠ (.slice Ao122 t339.length co122 : Value).ownBlock)) (n := t346.length) (c := co131) ?_).2.2; exact (by (with_reducible repeat (first | apply Kd.R_alloc | apply Kd.R_drewN | apply Kd.R_drew)); exact (Kd.R_mono (Kd.R_far (p := ⟨gb350, 2, none⟩) (Kd.R_far (p := ⟨gb350, 1, none⟩) (Kd.R_far (p := ⟨gb350, 0, none⟩) (Kd.R_types HO348.out BK350.out (by decide)) (fun _ hk => hk.2) (.string t342)) (fun _ hk => hk.2) (.slice Ao130 t343.length co130)) (fun _ hk => hk.2) (.slice Ao131 t346.length co131)) (fun _ h_ => h_.1)))); (case side4 => exact (Kd.R_reads' HO348.out).2.1); (case side5 => refine (Kd.R_reads' (e := 54) (base := w.heap.size) (ok := fun k_ => (((some k_ ≠ (.slice Ao32 t328.length co32 : Value).ownBlock ∧ some k_ ≠ (.slice Ao40 t310.length co40 : Value).ownBlock) ∧ some k_ ≠ (.slice Ao121 t336.length co121 : Value).ownBlock) ∧ some k_ ≠ (.slice Ao130 t343.length co130 : Value).ownBlock)) (n := t293.length) (c := co24) ?_).2.2; exact (by (with_reducible repeat (first | apply Kd.R_alloc | apply Kd.R_drewN | apply Kd.R_drew)); exact (Kd.R_mono (Kd.R_far (p := ⟨gb350, 2, none⟩) (Kd.R_far (p := ⟨gb350, 1, none⟩) (Kd.R_far (p := ⟨gb350, 0, none⟩) (Kd.R_types HO_301001.out BK350.out (by decide)) (fun _ hk => hk.2) (.string t342)) (fun _ hk => hk.2) (.slice Ao130 t343.length co130)) (fun _ hk => hk.2) (.slice Ao131 t346.length co131)) (fun _ h_ => h_.1)))); (case side6 => exact (Kd.R_reads' HO_301001.out).2.1); (case side7 => refine (Kd.R_reads' (e := 87) (base := w.heap.size) (ok := fun k_ => (((some k_ ≠ (.slice Ao33 t329.length co33 : Value).ownBlock ∧ some k_ ≠ (.slice Ao41 t313.length co41 : Value).ownBlock) ∧ some k_ ≠ (.slice Ao122 t339.length co122 : Value).ownBlock) ∧ some k_ ≠ (.slice Ao131 t346.length co131 : Value).ownBlock)) (n := t296.length) (c := co25) ?_).2.2; exact (by (with_reducible repeat (first | apply Kd.R_alloc | apply Kd.R_drewN | apply Kd.R_drew)); exact (Kd.R_mono (Kd.R_far (p := ⟨gb350, 2, none⟩) (Kd.R_far (p := ⟨gb350, 1, none⟩) (Kd.R_far (p := ⟨gb350, 0, none⟩) (Kd.R_types HO_301002.out BK350.out (by decide)) (fun _ hk => hk.2) (.string t342)) (fun _ hk => hk.2) (.slice Ao130 t343.length co130)) (fun _ hk => hk.2) (.slice Ao131 t346.length co131)) (fun _ h_ => h_.1)))); (case side8 => exact (Kd.R_reads' HO_301002.out).2.1); rintro e w153 ⟨rfl, hb⟩; refine ⟨_, rfl, ?_⟩; have n0_ := Aside0.mk (Kd.R_below (by (with_reducible repeat (first | apply Kd.R_alloc | apply Kd.R_drewN | apply Kd.R_drew)); exact (Kd.R_mono (Kd.R_far (p := ⟨gb350, 2, none⟩) (Kd.R_far (p := ⟨gb350, 1, none⟩) (Kd.R_far (p := ⟨gb350, 0, none⟩) (Kd.R_types HO_301001.out BK350.out (by decide)) (fun _ hk => hk.2) (.string t342)) (fun _ hk => hk.2) (.slice Ao130 t343.length co130)) (fun _ hk => hk.2) (.slice Ao131 t346.length co131)) (fun _ h_ => h_.1))) hb); have n1_ := Aside0.mk (Kd.R_below (by (with_reducible repeat (first | apply Kd.R_alloc | apply Kd.R_drewN | apply Kd.R_drew)); exact (Kd.R_mono (Kd.R_far (p := ⟨gb350, 2, none⟩) (Kd.R_far (p := ⟨gb350, 1, none⟩) (Kd.R_far (p := ⟨gb350, 0, none⟩) (Kd.R_types HO_301002.out BK350.out (by decide)) (fun _ hk => hk.2) (.string t342)) (fun _ hk => hk.2) (.slice Ao130 t343.length co130)) (fun _ hk => hk.2) (.slice Ao131 t346.length co131)) (fun _ h_ => h_.1))) hb); have n2_ := Aside0.mk (Kd.R_below (by (with_reducible repeat (first | apply Kd.R_alloc | apply Kd.R_drewN | apply Kd.R_drew)); exact (Kd.R_mono (Kd.R_far (p := ⟨gb350, 2, none⟩) (Kd.R_far (p := ⟨gb350, 1, none⟩) (Kd.R_far (p := ⟨gb350, 0, none⟩) (Kd.R_types HO_309001.out BK350.out (by decide)) (fun _ hk => hk.2) (.string t342)) (fun _ hk => hk.2) (.slice Ao130 t343.length co130)) (fun _ hk => hk.2) (.slice Ao131 t346.length co131)) (fun _ h_ => h_.1))) hb); have n3_ := Aside0.mk (Kd.R_below (by (with_reducible repeat (first | apply Kd.R_alloc | apply Kd.R_drewN | apply Kd.R_drew)); exact (Kd.R_mono (Kd.R_far (p := ⟨gb350, 2, none⟩) (Kd.R_far (p := ⟨gb350, 1, none⟩) (Kd.R_far (p := ⟨gb350, 0, none⟩) (Kd.R_types HO_309002.out BK350.out (by decide)) (fun _ hk => hk.2) (.string t342)) (fun _ hk => hk.2) (.slice Ao130 t343.length co130)) (fun _ hk => hk.2) (.slice Ao131 t346.length co131)) (fun _ h_ => h_.1))) hb); have n4_ := Aside0.mk (Kd.R_below (by (with_reducible repeat (first | apply Kd.R_alloc | apply Kd.R_drewN | apply Kd.R_drew)); exact (Kd.R_mono (Kd.R_far (p := ⟨gb350, 2, none⟩) (Kd.R_far (p := ⟨gb350, 1, none⟩) (Kd.R_far (p := ⟨gb350, 0, none⟩) (Kd.R_types HO_318001.out BK350.out (by decide)) (fun _ hk => hk.2) (.string t342)) (fun _ hk => hk.2) (.slice Ao130 t343.length co130)) (fun _ hk => hk.2) (.slice Ao131 t346.length co131)) (fun _ h_ => h_.1))) hb); have n5_ := Aside0.mk (Kd.R_below (by (with_reducible repeat (first | apply Kd.R_alloc | apply Kd.R_drewN | apply Kd.R_drew)); exact (Kd.R_mono (Kd.R_far (p := ⟨gb350, 2, none⟩) (Kd.R_far (p := ⟨gb350, 1, none⟩) (Kd.R_far (p := ⟨gb350, 0, none⟩) (Kd.R_types HO_318002.out BK350.out (by decide)) (fun _ hk => hk.2) (.string t342)) (fun _ hk => hk.2) (.slice Ao130 t343.length co130)) (fun _ hk => hk.2) (.slice Ao131 t346.length co131)) (fun _ h_ => h_.1))) hb); have n6_ := Aside0.mk (Kd.R_below (by (with_reducible repeat (first | apply Kd.R_alloc | apply Kd.R_drewN | apply Kd.R_drew)); exact (Kd.R_mono (Kd.R_far (p := ⟨gb350, 2, none⟩) (Kd.R_far (p := ⟨gb350, 1, none⟩) (Kd.R_far (p := ⟨gb350, 0, none⟩) (Kd.R_types HO338.out BK350.out (by decide)) (fun _ hk => hk.2) (.string t342)) (fun _ hk => hk.2) (.slice Ao130 t343.length co130)) (fun _ hk => hk.2) (.slice Ao131 t346.length co131)) (fun _ h_ => h_.1))) hb); have n7_ := Aside0.mk (Kd.R_below (by (with_reducible repeat (first | apply Kd.R_alloc | apply Kd.R_drewN | apply Kd.R_drew)); exact (Kd.R_mono (Kd.R_far (p := ⟨gb350, 2, none⟩) (Kd.R_far (p := ⟨gb350, 1, none⟩) (Kd.R_far (p := ⟨gb350, 0, none⟩) (Kd.R_types HO341.out BK350.out (by decide)) (fun _ hk => hk.2) (.string t342)) (fun _ hk => hk.2) (.slice Ao130 t343.length co130)) (fun _ hk => hk.2) (.slice Ao131 t346.length co131)) (fun _ h_ => h_.1))) hb); have n8_ := Aside0.mk (Kd.R_below (by (with_reducible repeat (first | apply Kd.R_alloc | apply Kd.R_drewN | apply Kd.R_drew)); exact (Kd.R_mono (Kd.R_far (p := ⟨gb350, 2, none⟩) (Kd.R_far (p := ⟨gb350, 1, none⟩) (Kd.R_far (p := ⟨gb350, 0, none⟩) (Kd.R_types HO345.out BK350.out (by decide)) (fun _ hk => hk.2) (.string t342)) (fun _ hk => hk.2) (.slice Ao130 t343.length co130)) (fun _ hk => hk.2) (.slice Ao131 t346.length co131)) (fun _ h_ => h_.1))) hb); have n9_ := Aside0.mk (Kd.R_below (by (with_reducible repeat (first | apply Kd.R_alloc | apply Kd.R_drewN | apply Kd.R_drew)); exact (Kd.R_mono (Kd.R_far (p := ⟨gb350, 2, none⟩) (Kd.R_far (p := ⟨gb350, 1, none⟩) (Kd.R_far (p := ⟨gb350, 0, none⟩) (Kd.R_types HO348.out BK350.out (by decide)) (fun _ hk => hk.2) (.string t342)) (fun _ hk => hk.2) (.slice Ao130 t343.length co130)) (fun _ hk => hk.2) (.slice Ao131 t346.length co131)) (fun _ h_ => h_.1))) hb); have n10_ := Aside0.mk (blk_below (g := gb283) (o := .cells #[.string a0_0, .slice A0_1 l0_1.length c0_1, .slice A0_2 l0_2.length c0_2] 39 (0, 0)) (by refine zP14 ?_; refine blk_far ?_ NB283_350.out _; refine zP14 ?_; refine blk_far ?_ NB283_350.out _; refine zP14 ?_; refine blk_far ?_ NB283_350.out _; refine zP14 ?_; exact BK283.out) hb); have n11_ := Aside0.mk (blk_below (g := gb300) (o := .cells #[.string t292, .slice Ao24 t293.length co24, .slice Ao25 t296.length co25] 45 (0, 0)) (by refine zP14 ?_; refine blk_far ?_ NB300_350.out _; refine zP14 ?_; refine blk_far ?_ NB300_350.out _; refine zP14 ?_; refine blk_far ?_ NB300_350.out _; refine zP14 ?_; exact BK300.out) hb); have n12_ := Aside0.mk (blk_below (g := gb308) (o := .cells #[.string t301, .slice Ao32 t328.length co32, .slice Ao33 t329.length co33] 45 (0, 0)) (by refine zP14 ?_; refine blk_far ?_ NB308_350.out _; refine zP14 ?_; refine blk_far ?_ NB308_350.out _; refine zP14 ?_; refine blk_far ?_ NB308_350.out _; refine zP14 ?_; exact BK308.out) hb); have n13_ := Aside0.mk (blk_below (g := gb317) (o := .cells #[.string t309, .slice Ao40 t310.length co40, .slice Ao41 t313.length co41] 45 (0, 0)) (by refine zP14 ?_; refine blk_far ?_ NB317_350.out _; refine zP14 ?_; refine blk_far ?_ NB317_350.out _; refine zP14 ?_; refine blk_far ?_ NB317_350.out _; refine zP14 ?_; exact BK317.out) hb); have n14_ := Aside0.mk (blk_below (g := gb350) (o := .cells #[.string t342, .slice Ao130 t343.length co130, .slice Ao131 t346.length co131] 45 (0, 0)) (by refine zP14 ?_; refine blk_put (cs := #[.string t342, .slice Ao130 t343.length co130, .slice none 0 0]) ?_ 2 _ rfl; refine zP14 ?_; refine blk_put (cs := #[.string t342, .slice none 0 0, .slice none 0 0]) ?_ 1 _ rfl; refine zP14 ?_; refine blk_put (cs := #[.string (⟨#[]⟩ : ByteArray), .slice none 0 0, .slice none 0 0]) ?_ 0 _ rfl; refine zP14 ?_; exact BK350.out) hb); have n15_ := Aside0.mk (below_step (zB14_5) hb); clear HO_301001; clear HO_301002; clear HO_309001; clear HO_309002; clear HO_318001; clear HO_318002; clear HO338; clear HO341; clear HO345; clear HO348; clear BK283; clear BK300; clear BK308; clear BK317; clear BK350; clear HB; have HO_301001 := n0_; have HO_301002 := n1_; have HO_309001 := n2_; have HO_309002 := n3_; have HO_318001 := n4_; have HO_318002 := n5_; have HO338 := n6_; have HO341 := n7_; have HO345 := n8_; have HO348 := n9_; have BK283 := n10_; have BK300 := n11_; have BK308 := n12_; have BK317 := n13_; have BK350 := n14_; have HB := n15_; clear n0_ n1_ n2_ n3_ n4_ n5_ n6_ n7_ n8_ n9_ n10_ n11_ n12_ n13_ n14_ n15_; (try clear hb); (try clear hb2); (try clear hk); (try clear hi)))
      go_meet
      case rel => exact ⟨_, (true), (by first | rfl | (simp; done) | (simp [*]; done)), H', ⟨by have := HJ11.out; have := HJ64.out; first | omega | exact Nat.le_refl _⟩, ⟨by (try simp only [hl309001_64]); (try simp only [hl309002_64]); (with_reducible repeat (first | apply Kd.R_alloc | apply Kd.R_drewN | apply Kd.R_drew)); exact Kd.R_mono HO_301001.out (fun _ hk => ⟨hk.1.1.1, ⟨hk.1.1.2, hk.2⟩⟩)⟩, ⟨by (try simp only [hl309001_64]); (try simp only [hl309002_64]); (with_reducible repeat (first | apply Kd.R_alloc | apply Kd.R_drewN | apply Kd.R_drew)); exact Kd.R_mono HO_301002.out (fun _ hk => ⟨hk.1.1.1, ⟨hk.1.1.2, hk.2⟩⟩)⟩, ⟨by (try simp only [hl309001_64]); (try simp only [hl309002_64]); (with_reducible repeat (first | apply Kd.R_alloc | apply Kd.R_drewN | apply Kd.R_drew)); exact Kd.R_mono HO_309001.out (fun _ hk => ⟨hk.1.1.1, ⟨hk.1.1.2, hk.2⟩⟩)⟩, ⟨by (try simp only [hl309001_64]); (try simp only [hl309002_64]); (with_reducible repeat (first | apply Kd.R_alloc | apply Kd.R_drewN | apply Kd.R_drew)); exact Kd.R_mono HO_309002.out (fun _ hk => ⟨hk.1.1.1, ⟨hk.1.1.2, hk.2⟩⟩)⟩, ⟨by (try simp only [hl309001_64]); (try simp only [hl309002_64]); (with_reducible repeat (first | apply Kd.R_alloc | apply Kd.R_drewN | apply Kd.R_drew)); exact Kd.R_mono HO_318001.out (fun _ hk => ⟨hk.1.1.1, ⟨hk.1.1.2, hk.2⟩⟩)⟩, ⟨by (try simp only [hl309001_64]); (try simp only [hl309002_64]); (with_reducible repeat (first | apply Kd.R_alloc | apply Kd.R_drewN | apply Kd.R_drew)); exact Kd.R_mono HO_318002.out (fun _ hk => ⟨hk.1.1.1, ⟨hk.1.1.2, hk.2⟩⟩)⟩, ⟨by (try simp only [hl309001_64]); (try simp only [hl309002_64]); (with_reducible repeat (first | apply Kd.R_alloc | apply Kd.R_drewN | apply Kd.R_drew)); exact Kd.R_mono HO345.out (fun _ hk => ⟨hk.1.1.1.2, ⟨hk.1.1.2, hk.1.2⟩⟩)⟩, ⟨by (try simp only [hl309001_64]); (try simp only [hl309002_64]); (with_reducible repeat (first | apply Kd.R_alloc | apply Kd.R_drewN | apply Kd.R_drew)); exact Kd.R_mono HO348.out (fun _ hk => ⟨hk.1.1.1.2, ⟨hk.1.1.2, hk.1.2⟩⟩)⟩, ⟨by (try simp only [hl309001_64]); (try simp only [hl309002_64]); refine zP14 ?_; exact BK283.out⟩, ⟨by (try simp only [hl309001_64]); (try simp only [hl309002_64]); refine zP14 ?_; exact BK300.out⟩, ⟨by (try simp only [hl309001_64]); (try simp only [hl309002_64]); refine zP14 ?_; exact BK308.out⟩, ⟨by (try simp only [hl309001_64]); (try simp only [hl309002_64]); refine zP14 ?_; exact BK317.out⟩, ⟨by (try simp only [hl309001_64]); (try simp only [hl309002_64]); refine zP14 ?_; exact BK350.out⟩, ⟨zB14_5⟩⟩
     case rest =>
      clear HC109
      try clear c1
      try clear c2
      try clear p2
      try clear c3
      try clear c4
      try clear c4b0
      try clear c5
      try clear c6
      try clear c7
      try clear c8
      try clear c9
      try clear c10
      try clear c11
      try clear c12
      try clear c13
      try clear c14
      try clear c15
      try clear c22
      try clear c24
      try clear c26
      try clear c28
      try clear c29
      try clear c30
      try clear c31
      try clear c36
      try clear c37
      try clear c38
      try clear c43
      try clear c44
      try clear c45
      try clear c46
      try clear c48
      try clear c49
      try clear c52
      try clear c53
      try clear c54
      try clear c56
      try clear c57
      try clear c60
      try clear c61
      try clear c63
      try clear c71
      try clear c72
      try clear c73
      try clear c76
      try clear c76b0
      try clear c78
      try clear c79
      try clear c80
      try clear c81
      try clear c83
      try clear c84
      try clear c87
      try clear c88
      try clear c89
      try clear c91
      try clear c92
      try clear c95
      try clear c98
      try clear c98b0
      try clear c99
      try clear c100
      try clear c101
      try clear c106
      try clear c106b0
      try clear c106b1
      try clear c110
      try clear c111
      try clear c112
      try clear c117
      try clear c118
      try clear c125
      try clear c126
      try clear c127
      try clear c128
      try clear c133
      try clear c134
      try clear c135
      try clear c136
      try clear c137
      try clear c139
      try clear c140
      try clear c141
      try clear c144
      try clear c145
      try clear c146
      try clear c147
      try clear c149
      try clear c150
      try clear c151
      try clear hcz102_0
      try clear hcz102_1
      try clear hcz102_2
      try clear hcz104_0
      try clear hcz104_1
      try clear hcz104_2
      try clear hcz113_0
      try clear hcz113_1
      try clear hcz113_2
      try clear hcz115_0
      try clear hcz115_1
      try clear hcz115_2
      try clear hcz119_0
      try clear hcz119_1
      try clear hcz119_2
      try clear hcz129_0
      try clear hcz129_1
      try clear hcz129_2
      try clear hcz138_0
      try clear hcz138_1
      try clear hcz138_2
      try clear hcz142_0
      try clear hcz142_1
      try clear hcz142_2
      try clear hcz148_0
      try clear hcz148_1
      try clear hcz148_2
      try clear hcz14_0
      try clear hcz14_1
      try clear hcz14_2
      try clear hcz152_0
      try clear hcz152_1
      try clear hcz152_2
      try clear hcz16_0
      try clear hcz16_1
      try clear hcz16_2
      try clear hcz23_0
      try clear hcz23_1
      try clear hcz23_2
      try clear hcz26_0
      try clear hcz26_1
      try clear hcz26_2
      try clear hcz31_0
      try clear hcz31_1
      try clear hcz31_2
      try clear hcz39_0
      try clear hcz39_1
      try clear hcz39_2
      try clear hcz47_0
      try clear hcz47_1
      try clear hcz47_2
      try clear hcz50_0
      try clear hcz50_1
      try clear hcz50_2
      try clear hcz55_0
      try clear hcz55_1
      try clear hcz55_2
      try clear hcz58_0
      try clear hcz58_1
      try clear hcz58_2
      try clear hcz6_0
      try clear hcz6_1
      try clear hcz6_2
      try clear hcz74_0
      try clear hcz74_1
      try clear hcz74_2
      try clear hcz82_0
      try clear hcz82_1
      try clear hcz82_2
      try clear hcz85_0
      try clear hcz85_1
      try clear hcz85_2
      try clear hcz90_0
      try clear hcz90_1
      try clear hcz90_2
      try clear hcz93_0
      try clear hcz93_1
      try clear hcz93_2
      try clear hfz102_0
      try clear hfz102_1
      try clear hfz102_2
      try clear hfz104_0
      try clear hfz104_1
      try clear hfz104_2
      try clear hfz113_0
      try clear hfz113_1
      try clear hfz113_2
      try clear hfz115_0
      try clear hfz115_1
      try clear hfz115_2
      try clear hfz119_0
      try clear hfz119_1
      try clear hfz119_2
      try clear hfz129_0
      try clear hfz129_1
      try clear hfz129_2
      try clear hfz138_0
      try clear hfz138_1
      try clear hfz138_2
      try clear hfz142_0
      try clear hfz142_1
      try clear hfz142_2
      try clear hfz148_0
      try clear hfz148_1
      try clear hfz148_2
      try clear hfz14_0
      try clear hfz14_1
      try clear hfz14_2
      try clear hfz152_0
      try clear hfz152_1
      try clear hfz152_2
      try clear hfz16_0
      try clear hfz16_1
      try clear hfz16_2
      try clear hfz23_0
      try clear hfz23_1
      try clear hfz23_2
      try clear hfz26_0
      try clear hfz26_1
      try clear hfz26_2
      try clear hfz31_0
      try clear hfz31_1
      try clear hfz31_2
      try clear hfz39_0
      try clear hfz39_1
      try clear hfz39_2
      try clear hfz47_0
      try clear hfz47_1
      try clear hfz47_2
      try clear hfz50_0
      try clear hfz50_1
      try clear hfz50_2
      try clear hfz55_0
      try clear hfz55_1
      try clear hfz55_2
      try clear hfz58_0
      try clear hfz58_1
      try clear hfz58_2
      try clear hfz6_0
      try clear hfz6_1
      try clear hfz6_2
      try clear hfz74_0
      try clear hfz74_1
      try clear hfz74_2
      try clear hfz82_0
      try clear hfz82_1
      try clear hfz82_2
      try clear hfz85_0
      try clear hfz85_1
      try clear hfz85_2
      try clear hfz90_0
      try clear hfz90_1
      try clear hfz90_2
      try clear hfz93_0
      try clear hfz93_1
      try clear hfz93_2
      try clear p2
      obtain ⟨kq, x92_108, rfl, HA, HJ108, HO_301001, HO_301002, HO_309001, HO_309002, HO_318001, HO_318002, HO_351001, HO_351002, BK283, BK300, BK308, BK317, BK350, HB⟩ := hcut
      have hl318001_108 := (Kd.R_reads' HO_318001.out).1
      rw [hl318001_108] at HO_318001
      (try simp only [hl318001_108])
      (try simp only [hl318001_108] at BK283)
      (try simp only [hl318001_108] at BK300)
      (try simp only [hl318001_108] at BK308)
      (try simp only [hl318001_108] at BK317)
      (try simp only [hl318001_108] at BK350)
      (try simp only [hl318001_108] at HO_301001)
      (try simp only [hl318001_108] at HO_301002)
      (try simp only [hl318001_108] at HO_309001)
      (try simp only [hl318001_108] at HO_309002)
      (try simp only [hl318001_108] at HO_318002)
      (try simp only [hl318001_108] at HO_351001)
      (try simp only [hl318001_108] at HO_351002)
      have hl318002_108 := (Kd.R_reads' HO_318002.out).1
      rw [hl318002_108] at HO_318002
      (try simp only [hl318002_108])
      (try simp only [hl318002_108] at BK283)
      (try simp only [hl318002_108] at BK300)
      (try simp only [hl318002_108] at BK308)
      (try simp only [hl318002_108] at BK317)
      (try simp only [hl318002_108] at BK350)
      (try simp only [hl318002_108] at HO_301001)
      (try simp only [hl318002_108] at HO_301002)
      (try simp only [hl318002_108] at HO_309001)
      (try simp only [hl318002_108] at HO_309002)
      (try simp only [hl318002_108] at HO_318001)
      (try simp only [hl318002_108] at HO_351001)
      (try simp only [hl318002_108] at HO_351002)
      cases kq with
      | zero => exact absurd HA.out (by simp [laws_FnExactMoved.j2])
      | succ kj108 =>
       have H := HA.out
       clear HA
       simp only [laws_FnExactMoved.j2] at H
       by_cases c154 : x92_108 = true
       ·subst c154
        have H1 : (some false) = some r := by rw [if_pos rfl] at H; exact H
        clear H
        have H := H1
        clear H1
        obtain rfl := Option.some.inj H
        go_wp2
        go_ret
        exact ⟨zE14, zB14_5⟩
       replace c154 := Bool.eq_false_iff.mpr c154
       subst c154
       have H1 : ((laws_heldPart.f kj108 t309 t332 t333 1).bind fun t352 => (if t352 < 0 then (some false) else (if t352 = t331 then (some true) else (some false)))) = some r := by rw [if_neg (show ¬ (false = true) by decide)] at H; exact H
       clear H
       have H := H1
       clear H1
       replace H := Option.bind_eq_some_iff.mp H
       obtain ⟨t352, A1550, H⟩ := H
       replace H : (if t352 < 0 then (some false) else (if t352 = t331 then (some true) else (some false))) = some r := H
       have A155 := Aside0.mk A1550
       clear A1550
       by_cases c156 : t352 < 0
       ·rw [if_pos c156] at H
        have c156b0 : decide (t352 < 0) = true := decide_eq_true c156
        clear c156
        obtain rfl := Option.some.inj H
        have hnb157 := NB317_283.out
        have hnc157 := NB283_317.out
        have hnb158 := NB317_300.out
        have hnc158 := NB300_317.out
        have hnb159 := NB317_308.out
        have hnc159 := NB308_317.out
        have hnb160 := NB317_350.out
        have hnc160 := NB350_317.out
        obtain ⟨hcz161_0, hcz161_1, hcz161_2, hfz161_0, hfz161_1, hfz161_2⟩ := zc14_3 (w := wc) BK317.out
        go_wp2_with (first | ((with_reducible refine gate_callee (f := 61) rfl ?_); refine goesL_ (some 95) rfl rfl Try.func61 (by kernel_rfl) rfl #[.agg #[.string t309, .slice Ao40 t332.length co40, .slice Ao41 t333.length co41], .int .i64 1] rfl zT14 ?_; (with_reducible refine (laws_heldPart.calls kj108 t309 _ _ t332 _ _ t333 1 t352 _ ?side1 ?side2 ?side3 ?side4 A155.out).mono ?_); (case side1 => exact zC14 (Kd.R_reads' HO_318001.out).2.2); (case side2 => exact (Kd.R_reads' HO_318001.out).2.1); (case side3 => exact zC14 (Kd.R_reads' HO_318002.out).2.2); (case side4 => exact (Kd.R_reads' HO_318002.out).2.1); rintro e w162 ⟨rfl, hb⟩; refine ⟨_, rfl, ?_⟩; have n0_ := Aside0.mk (Kd.R_below (zR14 HO_301001.out) hb); have n1_ := Aside0.mk (Kd.R_below (zR14 HO_301002.out) hb); have n2_ := Aside0.mk (Kd.R_below (zR14 HO_309001.out) hb); have n3_ := Aside0.mk (Kd.R_below (zR14 HO_309002.out) hb); have n4_ := Aside0.mk (Kd.R_below (zR14 HO_318001.out) hb); have n5_ := Aside0.mk (Kd.R_below (zR14 HO_318002.out) hb); have n6_ := Aside0.mk (Kd.R_below (zR14 HO_351001.out) hb); have n7_ := Aside0.mk (Kd.R_below (zR14 HO_351002.out) hb); have n8_ := Aside0.mk (zb14 BK283.out hb); have n9_ := Aside0.mk (zb14 BK300.out hb); have n10_ := Aside0.mk (zb14 BK308.out hb); have n11_ := Aside0.mk (zb14 BK317.out hb); have n12_ := Aside0.mk (zb14 BK350.out hb); have n13_ := Aside0.mk (below_step (zB14_5) hb); clear HO_301001; clear HO_301002; clear HO_309001; clear HO_309002; clear HO_318001; clear HO_318002; clear HO_351001; clear HO_351002; clear BK283; clear BK300; clear BK308; clear BK317; clear BK350; clear HB; have HO_301001 := n0_; have HO_301002 := n1_; have HO_309001 := n2_; have HO_309002 := n3_; have HO_318001 := n4_; have HO_318002 := n5_; have HO_351001 := n6_; have HO_351002 := n7_; have BK283 := n8_; have BK300 := n9_; have BK308 := n10_; have BK317 := n11_; have BK350 := n12_; have HB := n13_; clear n0_ n1_ n2_ n3_ n4_ n5_ n6_ n7_ n8_ n9_ n10_ n11_ n12_ n13_; (try clear hb); (try clear hb2); (try clear hk); (try clear hi)))
        go_ret
        exact ⟨zE14, zB14_5⟩
       rw [if_neg c156] at H
       have c156b0 : decide (t352 < 0) = false := decide_eq_false c156
       clear c156
       by_cases c163 : t352 = t331
       rotate_left
       ·rw [if_neg c163] at H
        have c163b0 : (t352 == t331) = false := beq_eq_false_iff_ne.mpr c163
        have c163b1 : (t352 != t331) = true := bne_iff_ne.mpr c163
        obtain rfl := Option.some.inj H
        have hnb170 := NB317_283.out
        have hnc170 := NB283_317.out
        have hnb171 := NB317_300.out
        have hnc171 := NB300_317.out
        have hnb172 := NB317_308.out
        have hnc172 := NB308_317.out
        have hnb173 := NB317_350.out
        have hnc173 := NB350_317.out
        obtain ⟨hcz174_0, hcz174_1, hcz174_2, hfz174_0, hfz174_1, hfz174_2⟩ := zc14_3 (w := wc) BK317.out
        go_wp2_with (first | ((with_reducible refine gate_callee (f := 61) rfl ?_); refine goesL_ (some 95) rfl rfl Try.func61 (by kernel_rfl) rfl #[.agg #[.string t309, .slice Ao40 t332.length co40, .slice Ao41 t333.length co41], .int .i64 1] rfl zT14 ?_; (with_reducible refine (laws_heldPart.calls kj108 t309 _ _ t332 _ _ t333 1 t352 _ ?side1 ?side2 ?side3 ?side4 A155.out).mono ?_); (case side1 => exact zC14 (Kd.R_reads' HO_318001.out).2.2); (case side2 => exact (Kd.R_reads' HO_318001.out).2.1); (case side3 => exact zC14 (Kd.R_reads' HO_318002.out).2.2); (case side4 => exact (Kd.R_reads' HO_318002.out).2.1); rintro e w175 ⟨rfl, hb⟩; refine ⟨_, rfl, ?_⟩; have n0_ := Aside0.mk (Kd.R_below (zR14 HO_301001.out) hb); have n1_ := Aside0.mk (Kd.R_below (zR14 HO_301002.out) hb); have n2_ := Aside0.mk (Kd.R_below (zR14 HO_309001.out) hb); have n3_ := Aside0.mk (Kd.R_below (zR14 HO_309002.out) hb); have n4_ := Aside0.mk (Kd.R_below (zR14 HO_318001.out) hb); have n5_ := Aside0.mk (Kd.R_below (zR14 HO_318002.out) hb); have n6_ := Aside0.mk (Kd.R_below (zR14 HO_351001.out) hb); have n7_ := Aside0.mk (Kd.R_below (zR14 HO_351002.out) hb); have n8_ := Aside0.mk (zb14 BK283.out hb); have n9_ := Aside0.mk (zb14 BK300.out hb); have n10_ := Aside0.mk (zb14 BK308.out hb); have n11_ := Aside0.mk (zb14 BK317.out hb); have n12_ := Aside0.mk (zb14 BK350.out hb); have n13_ := Aside0.mk (below_step (zB14_5) hb); clear HO_301001; clear HO_301002; clear HO_309001; clear HO_309002; clear HO_318001; clear HO_318002; clear HO_351001; clear HO_351002; clear BK283; clear BK300; clear BK308; clear BK317; clear BK350; clear HB; have HO_301001 := n0_; have HO_301002 := n1_; have HO_309001 := n2_; have HO_309002 := n3_; have HO_318001 := n4_; have HO_318002 := n5_; have HO_351001 := n6_; have HO_351002 := n7_; have BK283 := n8_; have BK300 := n9_; have BK308 := n10_; have BK317 := n11_; have BK350 := n12_; have HB := n13_; clear n0_ n1_ n2_ n3_ n4_ n5_ n6_ n7_ n8_ n9_ n10_ n11_ n12_ n13_; (try clear hb); (try clear hb2); (try clear hk); (try clear hi)))
        go_ret
        exact ⟨zE14, zB14_5⟩
       rw [if_pos c163] at H
       have c163b0 : (t352 == t331) = true := beq_iff_eq.mpr c163
       have c163b1 : (t352 != t331) = false := bne_eq_false_iff_eq.mpr c163
       clear c163
       obtain rfl := Option.some.inj H
       have hnb164 := NB317_283.out
       have hnc164 := NB283_317.out
       have hnb165 := NB317_300.out
       have hnc165 := NB300_317.out
       have hnb166 := NB317_308.out
       have hnc166 := NB308_317.out
       have hnb167 := NB317_350.out
       have hnc167 := NB350_317.out
       obtain ⟨hcz168_0, hcz168_1, hcz168_2, hfz168_0, hfz168_1, hfz168_2⟩ := zc14_3 (w := wc) BK317.out
       go_wp2_with (first | ((with_reducible refine gate_callee (f := 61) rfl ?_); refine goesL_ (some 95) rfl rfl Try.func61 (by kernel_rfl) rfl #[.agg #[.string t309, .slice Ao40 t332.length co40, .slice Ao41 t333.length co41], .int .i64 1] rfl zT14 ?_; (with_reducible refine (laws_heldPart.calls kj108 t309 _ _ t332 _ _ t333 1 t352 _ ?side1 ?side2 ?side3 ?side4 A155.out).mono ?_); (case side1 => exact zC14 (Kd.R_reads' HO_318001.out).2.2); (case side2 => exact (Kd.R_reads' HO_318001.out).2.1); (case side3 => exact zC14 (Kd.R_reads' HO_318002.out).2.2); (case side4 => exact (Kd.R_reads' HO_318002.out).2.1); rintro e w169 ⟨rfl, hb⟩; refine ⟨_, rfl, ?_⟩; have n0_ := Aside0.mk (Kd.R_below (zR14 HO_301001.out) hb); have n1_ := Aside0.mk (Kd.R_below (zR14 HO_301002.out) hb); have n2_ := Aside0.mk (Kd.R_below (zR14 HO_309001.out) hb); have n3_ := Aside0.mk (Kd.R_below (zR14 HO_309002.out) hb); have n4_ := Aside0.mk (Kd.R_below (zR14 HO_318001.out) hb); have n5_ := Aside0.mk (Kd.R_below (zR14 HO_318002.out) hb); have n6_ := Aside0.mk (Kd.R_below (zR14 HO_351001.out) hb); have n7_ := Aside0.mk (Kd.R_below (zR14 HO_351002.out) hb); have n8_ := Aside0.mk (zb14 BK283.out hb); have n9_ := Aside0.mk (zb14 BK300.out hb); have n10_ := Aside0.mk (zb14 BK308.out hb); have n11_ := Aside0.mk (zb14 BK317.out hb); have n12_ := Aside0.mk (zb14 BK350.out hb); have n13_ := Aside0.mk (below_step (zB14_5) hb); clear HO_301001; clear HO_301002; clear HO_309001; clear HO_309002; clear HO_318001; clear HO_318002; clear HO_351001; clear HO_351002; clear BK283; clear BK300; clear BK308; clear BK317; clear BK350; clear HB; have HO_301001 := n0_; have HO_301002 := n1_; have HO_309001 := n2_; have HO_309002 := n3_; have HO_318001 := n4_; have HO_318002 := n5_; have HO_351001 := n6_; have HO_351002 := n7_; have BK283 := n8_; have BK300 := n9_; have BK308 := n10_; have BK317 := n11_; have BK350 := n12_; have HB := n13_; clear n0_ n1_ n2_ n3_ n4_ n5_ n6_ n7_ n8_ n9_ n10_ n11_ n12_ n13_; (try clear hb); (try clear hb2); (try clear hk); (try clear hi)))
       go_ret
       exact ⟨zE14, zB14_5⟩

/-- THE ONE PURE STATEMENT of laws_FnExactMoved: yours. -/
def laws_FnExactMoved.Pure : Prop := ∀ (a0_0 : ByteArray) (l0_1 : List (S162)) (l0_2 : List (S159)) (a1 : Int), (a0_0.size ≤ maxLen ∧ ((l0_1.length ≤ maxLen ∧ ∀ y1_ ∈ l0_1, ((Lit.int .i64 y1_.f0).wf = true ∧ ((Lit.int .i64 y1_.f1).wf = true ∧ ((Lit.int .i64 y1_.f2).wf = true ∧ ((Lit.int .i64 y1_.f3).wf = true ∧ (Lit.int .i64 y1_.f4).wf = true))))) ∧ (l0_2.length ≤ maxLen ∧ ∀ y2_ ∈ l0_2, ((Lit.int .i64 y2_.f0).wf = true ∧ y2_.f1.size ≤ maxLen)))) → (Lit.int .i64 a1).wf = true → ∃ k, laws_FnExactMoved.f k a0_0 l0_1 l0_2 a1 = some true
theorem laws_FnExactMoved.walk (P : laws_FnExactMoved.Pure) (a0_0 : ByteArray) (A0_1 : Option Addr) (c0_1 : Nat) (l0_1 : List (S162)) (A0_2 : Option Addr) (c0_2 : Nat) (l0_2 : List (S159)) (a1 : Int) (w : World) (hr0_1 : Kd.C k162 w A0_1 l0_1.length l0_1) (hc0_1 : l0_1.length ≤ c0_1) (hr0_2 : Kd.C k159 w A0_2 l0_2.length l0_2) (hc0_2 : l0_2.length ≤ c0_2) (g0 : (a0_0.size ≤ maxLen ∧ ((l0_1.length ≤ maxLen ∧ ∀ y1_ ∈ l0_1, ((Lit.int .i64 y1_.f0).wf = true ∧ ((Lit.int .i64 y1_.f1).wf = true ∧ ((Lit.int .i64 y1_.f2).wf = true ∧ ((Lit.int .i64 y1_.f3).wf = true ∧ (Lit.int .i64 y1_.f4).wf = true))))) ∧ (l0_2.length ≤ maxLen ∧ ∀ y2_ ∈ l0_2, ((Lit.int .i64 y2_.f0).wf = true ∧ y2_.f1.size ≤ maxLen))))) (g1 : (Lit.int .i64 a1).wf = true) :
  Calls Try.prog 12 #[.agg #[.string a0_0, .slice A0_1 l0_1.length c0_1, .slice A0_2 l0_2.length c0_2], .int .i64 a1] w fun e w' => e = .returned (.bool true) ∧ Below w.heap.size w w' := by
 obtain ⟨k, h⟩ := P a0_0 l0_1 l0_2 a1 g0 g1
 refine (laws_FnExactMoved.calls k a0_0 A0_1 c0_1 l0_1 A0_2 c0_2 l0_2 a1 true w hr0_1 hc0_1 hr0_2 hc0_2 h).mono ?_
 rintro e w' ⟨rfl, hd⟩
 exact ⟨rfl, hd⟩

end Go.Proofs.Ytddncenhddiemaa.PFnExactMoved
