-- made by wip/tools/myprint.py out of the seat's translation
import Derived.Test.YtehgffgpgoopiaaPFnNoLoopEndsx0
import Derived.Test.YtehgffgpgoopiaaPFnNoLoopEndsx2
import Derived.Test.YtehgffgpgoopiaaPFnNoLoopEndsx5
import Derived.Test.YtehgffgpgoopiaaPFnNoLoopEndsx8
import Derived.Test.YtehgffgpgoopiaaPFnNoLoopEndsx10
import Derived.Test.YtehgffgpgoopiaaPFnNoLoopEndsx11
import Derived.Test.YtehgffgpgoopiaaPFnNoLoopEndsx13
namespace Go.Proofs.Ytehgffgpgoopiaa.PFnNoLoopEnds
open Go.RowKit Go.Proofs.YtehgffgpgoopiaaW.PrintWords Go.Proofs.YtehgffgpgoopiaaW.PrintLast Go.Proofs.YtehgffgpgoopiaaW.PrintMore
attribute [local go_sem] max2_int min2_int max_two min_two max_three min_three max_four min_four   -- for this text's walks alone
set_option linter.unusedVariables false
set_option linter.unusedSimpArgs false
theorem zc14_3 {w : World} {g : Nat} {a0 a1 a2 : Value} {t : TypeId} (h : w.heap[g]? = some (.cells #[a0, a1, a2] t (0, 0))) : w.cell? ⟨g, 0, none⟩ = some a0 ∧ w.cell? ⟨g, 1, none⟩ = some a1 ∧ w.cell? ⟨g, 2, none⟩ = some a2 ∧ w.frozen? ⟨g, 0, none⟩ = false ∧ w.frozen? ⟨g, 1, none⟩ = false ∧ w.frozen? ⟨g, 2, none⟩ = false := ⟨(blk_cell h 0).trans rfl, (blk_cell h 1).trans rfl, (blk_cell h 2).trans rfl, blk_frozen h 0, blk_frozen h 1, blk_frozen h 2⟩
abbrev zq14_0 : Array Bool := #[false, false, false, false, false, false, false, false, false, false, false, false, false, false, false, false, false, false, false, false]
abbrev zq14_1 : Array Bool := #[true, false, false, false, false, false, false, false, false, false, false, false, false, false, false, false, false, false, false, false]
abbrev zq14_2 : Array Bool := #[true, true, false, false, false, false, false, false, false, false, false, false, false, false, false, false, false, false, false, false]
abbrev zq14_3 : Array Bool := #[true, true, false, false, true, false, false, false, false, false, false, false, false, false, false, false, false, false, false, false]
abbrev zq14_4 : Array Bool := #[true, true, false, false, true, true, false, false, false, false, false, false, false, false, false, false, false, false, false, false]
abbrev zq14_5 : Array Bool := #[true, true, true, false, true, true, false, false, false, false, false, false, false, false, false, false, false, false, false, false]
abbrev zq14_6 : Array Bool := #[true, true, true, false, true, true, true, false, false, false, false, false, false, false, false, false, false, false, false, false]
abbrev zq14_7 : Array Bool := #[true, true, true, true, true, true, true, false, false, false, false, false, false, false, false, false, false, false, false, false]
abbrev zq14_8 : Array Bool := #[true, true, true, true, true, true, true, true, false, false, false, false, false, false, false, false, false, false, false, false]
abbrev zq14_9 : Array Bool := #[true, true, true, true, true, true, true, true, true, false, false, false, false, false, false, false, false, false, false, false]
abbrev zq14_10 : Array Bool := #[true, true, true, true, true, true, true, true, true, true, false, false, false, false, false, false, false, false, false, false]
abbrev zq14_11 : Array Bool := #[true, true, true, true, true, true, true, true, true, true, true, false, false, false, false, false, false, false, false, false]
abbrev zq14_12 : Array Bool := #[true, true, true, true, true, true, true, true, true, true, true, true, false, false, false, false, false, false, false, false]
abbrev zq14_13 : Array Bool := #[true, true, true, true, true, true, true, true, true, true, true, true, true, true, true, true, true, false, false, false]
abbrev zq14_14 : Array Bool := #[true, true, true, true, true, true, true, true, true, true, true, true, true, true, true, true, true, true, false, false]
abbrev zq14_15 : Array Bool := #[true, true, true, true, true, true, true, true, true, true, true, true, true, true, true, true, true, true, true, false]
abbrev zq14_16 : Array Bool := #[true, true, true, true, true, true, true, true, true, true, true, true, true, true, true, true, true, true, true, true]
theorem zR14 {p q : Prop} (x : q) (h : q → p := by intro h; (with_reducible repeat (first | apply Kd.R_alloc | apply Kd.R_drewN | apply Kd.R_drew)); exact h) : p := h x
theorem zS14 {p q : Prop} (x : q) (h : q → p := by intro h; (with_reducible repeat (first | apply Kd.S_alloc | apply Kd.S_drewN | apply Kd.S_drew)); exact h) : p := h x
theorem zK14 {p q : Prop} (x : q) (h : q → p := by intro h; (with_reducible repeat (first | refine blk_drewN ?_ _ | refine blk_drew ?_ | refine blk_alloc ?_ _)); exact h) : p := h x
theorem zA14 {p : Prop} [Decidable p] (h : decide p = true := by first | (with_reducible assumption) | assumption) : p := of_decide_eq_true h
theorem zT14 {p : Prop} (h : p := by (try simp only [List.map_toArray, List.map_cons, List.map_nil]); first | done | rfl | (simp only [List.length_drop, List.length_take]; rfl)) : p := h
theorem zC14 {p q : Prop} (x : q) (h : q → p := by intro h; repeat (first | exact h | (with_reducible refine Kd.C_alloc ?_ _) | (with_reducible refine Kd.C_drewN ?_ _) | (with_reducible refine Kd.C_drew ?_))) : p := h x
theorem zb14 {W w w1 : World} {g : Nat} {o : Obj} (x : W.heap[g]? = some o) (hb : Below w.heap.size w w1) (h : W.heap[g]? = some o → w.heap[g]? = some o := by intro h; (with_reducible repeat (first | refine blk_drewN ?_ _ | refine blk_drew ?_ | refine blk_alloc ?_ _)); exact h) : w1.heap[g]? = some o := blk_below (h x) hb
theorem zP14 {p q : Prop} (x : q) (h : q → p := by intro h; (with_reducible repeat (first | refine blk_drewN ?_ _ | refine blk_drew ?_ | refine blk_alloc ?_ _)); exact h) : p := h x
theorem zV14 {a b : Act} (h : a = b := by simp only [Act.put, List.setIfInBounds_toArray, List.set_cons_zero, List.set_cons_succ, i64_w, i32_w]; rfl) : a = b := h
theorem zE14 {p : Prop} (h : p := by first | rfl | (simp [errW_none, errW_some] <;> rfl) | (simp [*, errW_none, errW_some] <;> rfl)) : p := h
theorem zB14_0 {p : Prop} (h : p := by repeat (first | (with_reducible first | exact HB.out | apply below_alloc | apply pw_below_drewN | apply below_drew1) | exact HB.out)) : p := h
theorem zB14_1 {p : Prop} (h : p := by repeat (first | (with_reducible first | exact HB.out | apply below_alloc | apply pw_below_drewN | apply below_drew1 | refine below_set ?_ GE581.out) | exact HB.out)) : p := h

/-! ### laws_FnNoLoopEnds: function 3 -/
theorem copyHart_eq {a t : List Int} {b c u v : Int} (h : impl_copyHart.f a b c = some (t, u, v)) : t = a ∧ u = b ∧ v = c := by
 unfold impl_copyHart.f at h
 obtain ⟨t1, h1, h⟩ := Option.bind_eq_some_iff.mp h
 unfold slices_Clone_int_int.f at h1
 split at h1
 ·cases h1; cases h; exact ⟨rfl, rfl, rfl⟩
 ·cases h1
theorem R_two {α β : Type} {d : Kd α} {d' : Kd β} {e e' b : Nat} {W : World} {ok ok' : Nat → Prop} {u v : Value} {xs : List α} {ys : List β} (hE : d.E = []) (h : Kd.R d e W b ok v xs) (hu : Kd.R d' e' W b ok' u ys) (hne : ∀ k, ok' k → some k ≠ v.ownBlock) : Kd.R d e W b (fun k => ok k ∧ some k ≠ u.ownBlock) v xs :=
 Kd.R_mono (Kd.R_tight hE h) (fun k hk => ⟨h.1 k hk.symm, fun he => hne k (hu.1 k he.symm) hk⟩)
mutual
def laws_FnNoLoopEnds.j0 : Nat → List Int → Bool → List Int → Int → Int → Option (Bool)
 | 0, _, _, _, _, _ => none
 | k + 1, x3, x38, x582000, x582001, x582002 => if x38 = true then (some false) else ((impl_LoopsFrom.f k x3 x582001).bind fun t591 => (if t591 = true then (laws_FnNoLoopEnds.j1 k x3 true x582000 x582001 x582002) else ((impl_WritesFrom.f k x3 x582001).bind fun t592 => (laws_FnNoLoopEnds.j1 k x3 t592 x582000 x582001 x582002))))
def laws_FnNoLoopEnds.j1 : Nat → List Int → Bool → List Int → Int → Int → Option (Bool)
 | 0, _, _, _, _, _ => none
 | k + 1, x3, x48, x582000, x582001, x582002 => if x48 = true then (some true) else (laws_FnNoLoopEnds.l0 k x3 0 x582000 x582001 x582002)
def laws_FnNoLoopEnds.l0 : Nat → List Int → Int → List Int → Int → Int → Option (Bool)
 | 0, _, _, _, _, _ => none
 | k + 1, x3, x7, x582000, x582001, x582002 => if x7 ≤ 24 then ((impl_FlatStep.f k x3 x582000 x582001 x582002).bind fun bt593 => (laws_FnNoLoopEnds.l0 k x3 (wrap64 (x7 + 1)) bt593.2.1 bt593.2.2.1 bt593.2.2.2)) else (some (x582002 != 0))
end
def laws_FnNoLoopEnds.f (k : Nat) (l0 : List Int) : Option (Bool) := (laws_big.f l0).bind fun t570 => (if t570 = true then (some true) else ((spec_DrawSteps.f k l0).bind fun bt571 => (if 0 < (bt571.2.1.length : Int) then ((impl_copyHart.f ((rd_T29 bt571.2.1 0).f0) ((rd_T29 bt571.2.1 0).f1) ((rd_T29 bt571.2.1 0).f2)).bind fun bt582 => ((impl_LoopsFrom.f k bt571.1 bt582.2.1).bind fun t587 => ((spec_LoopsFrom.f k bt571.1 bt582.2.1).bind fun t588 => (if (t587 != t588) = true then (laws_FnNoLoopEnds.j0 k bt571.1 true bt582.1 bt582.2.1 bt582.2.2) else ((impl_WritesFrom.f k bt571.1 bt582.2.1).bind fun t589 => ((spec_WritesFrom.f k bt571.1 bt582.2.1).bind fun t590 => (laws_FnNoLoopEnds.j0 k bt571.1 (t589 != t590) bt582.1 bt582.2.1 bt582.2.2))))))) else (none))))
theorem laws_FnNoLoopEnds.mono_l : ∀ k, (∀ y0 y1 y2 y3 y4, LeO (laws_FnNoLoopEnds.j0 k y0 y1 y2 y3 y4) (laws_FnNoLoopEnds.j0 (k + 1) y0 y1 y2 y3 y4)) ∧ (∀ y0 y1 y2 y3 y4, LeO (laws_FnNoLoopEnds.j1 k y0 y1 y2 y3 y4) (laws_FnNoLoopEnds.j1 (k + 1) y0 y1 y2 y3 y4)) ∧ (∀ y0 y1 y2 y3 y4, LeO (laws_FnNoLoopEnds.l0 k y0 y1 y2 y3 y4) (laws_FnNoLoopEnds.l0 (k + 1) y0 y1 y2 y3 y4))
 | 0 => ⟨fun _ _ _ _ _ r h => by simp [laws_FnNoLoopEnds.j0] at h, fun _ _ _ _ _ r h => by simp [laws_FnNoLoopEnds.j1] at h, fun _ _ _ _ _ r h => by simp [laws_FnNoLoopEnds.l0] at h⟩
 | k + 1 => by
  obtain ⟨ih0, ih1, ih2⟩ := laws_FnNoLoopEnds.mono_l k
  refine ⟨?_, ?_, ?_⟩
  ·intro y0 y1 y2 y3 y4
   unfold laws_FnNoLoopEnds.j0
   repeat' first
   | (with_reducible exact ih0 _ _ _ _ _)
   | (with_reducible exact ih1 _ _ _ _ _)
   | (with_reducible exact ih2 _ _ _ _ _)
   | (with_reducible exact impl_FlatStep.mono _ _ _ _ _)
   | (with_reducible exact impl_LoopsFrom.mono _ _ _)
   | (with_reducible exact impl_WritesFrom.mono _ _ _)
   | (with_reducible exact spec_DrawSteps.mono _ _)
   | (with_reducible exact spec_LoopsFrom.mono _ _ _)
   | (with_reducible exact spec_WritesFrom.mono _ _ _)
   | (with_reducible exact LeO.refl _)
   | (with_reducible exact LeO.none _)
   | (with_reducible refine LeO.ite ?_ ?_)
   | (with_reducible refine LeO.bind ?_ (fun _ => ?_))
   | exact ih0 _ _ _ _ _
   | exact ih1 _ _ _ _ _
   | exact ih2 _ _ _ _ _
   | exact impl_FlatStep.mono _ _ _ _ _
   | exact impl_LoopsFrom.mono _ _ _
   | exact impl_WritesFrom.mono _ _ _
   | exact spec_DrawSteps.mono _ _
   | exact spec_LoopsFrom.mono _ _ _
   | exact spec_WritesFrom.mono _ _ _
   | exact LeO.none _
   | refine LeO.ite ?_ ?_
   | refine LeO.bind ?_ (fun _ => ?_)
  ·intro y0 y1 y2 y3 y4
   unfold laws_FnNoLoopEnds.j1
   repeat' first
   | (with_reducible exact ih0 _ _ _ _ _)
   | (with_reducible exact ih1 _ _ _ _ _)
   | (with_reducible exact ih2 _ _ _ _ _)
   | (with_reducible exact impl_FlatStep.mono _ _ _ _ _)
   | (with_reducible exact impl_LoopsFrom.mono _ _ _)
   | (with_reducible exact impl_WritesFrom.mono _ _ _)
   | (with_reducible exact spec_DrawSteps.mono _ _)
   | (with_reducible exact spec_LoopsFrom.mono _ _ _)
   | (with_reducible exact spec_WritesFrom.mono _ _ _)
   | (with_reducible exact LeO.refl _)
   | (with_reducible exact LeO.none _)
   | (with_reducible refine LeO.ite ?_ ?_)
   | (with_reducible refine LeO.bind ?_ (fun _ => ?_))
   | exact ih0 _ _ _ _ _
   | exact ih1 _ _ _ _ _
   | exact ih2 _ _ _ _ _
   | exact impl_FlatStep.mono _ _ _ _ _
   | exact impl_LoopsFrom.mono _ _ _
   | exact impl_WritesFrom.mono _ _ _
   | exact spec_DrawSteps.mono _ _
   | exact spec_LoopsFrom.mono _ _ _
   | exact spec_WritesFrom.mono _ _ _
   | exact LeO.none _
   | refine LeO.ite ?_ ?_
   | refine LeO.bind ?_ (fun _ => ?_)
  ·intro y0 y1 y2 y3 y4
   unfold laws_FnNoLoopEnds.l0
   repeat' first
   | (with_reducible exact ih0 _ _ _ _ _)
   | (with_reducible exact ih1 _ _ _ _ _)
   | (with_reducible exact ih2 _ _ _ _ _)
   | (with_reducible exact impl_FlatStep.mono _ _ _ _ _)
   | (with_reducible exact impl_LoopsFrom.mono _ _ _)
   | (with_reducible exact impl_WritesFrom.mono _ _ _)
   | (with_reducible exact spec_DrawSteps.mono _ _)
   | (with_reducible exact spec_LoopsFrom.mono _ _ _)
   | (with_reducible exact spec_WritesFrom.mono _ _ _)
   | (with_reducible exact LeO.refl _)
   | (with_reducible exact LeO.none _)
   | (with_reducible refine LeO.ite ?_ ?_)
   | (with_reducible refine LeO.bind ?_ (fun _ => ?_))
   | exact ih0 _ _ _ _ _
   | exact ih1 _ _ _ _ _
   | exact ih2 _ _ _ _ _
   | exact impl_FlatStep.mono _ _ _ _ _
   | exact impl_LoopsFrom.mono _ _ _
   | exact impl_WritesFrom.mono _ _ _
   | exact spec_DrawSteps.mono _ _
   | exact spec_LoopsFrom.mono _ _ _
   | exact spec_WritesFrom.mono _ _ _
   | exact LeO.none _
   | refine LeO.ite ?_ ?_
   | refine LeO.bind ?_ (fun _ => ?_)
theorem laws_FnNoLoopEnds.mono : ∀ a0 k, LeO (laws_FnNoLoopEnds.f k a0) (laws_FnNoLoopEnds.f (k + 1) a0) := by
 intro a0 k
 obtain ⟨ih0, ih1, ih2⟩ := laws_FnNoLoopEnds.mono_l k
 unfold laws_FnNoLoopEnds.f
 repeat' first
   | (with_reducible exact ih0 _ _ _ _ _)
   | (with_reducible exact ih1 _ _ _ _ _)
   | (with_reducible exact ih2 _ _ _ _ _)
   | (with_reducible exact impl_FlatStep.mono _ _ _ _ _)
   | (with_reducible exact impl_LoopsFrom.mono _ _ _)
   | (with_reducible exact impl_WritesFrom.mono _ _ _)
   | (with_reducible exact spec_DrawSteps.mono _ _)
   | (with_reducible exact spec_LoopsFrom.mono _ _ _)
   | (with_reducible exact spec_WritesFrom.mono _ _ _)
   | (with_reducible exact LeO.refl _)
   | (with_reducible exact LeO.none _)
   | (with_reducible refine LeO.ite ?_ ?_)
   | (with_reducible refine LeO.bind ?_ (fun _ => ?_))
   | exact ih0 _ _ _ _ _
   | exact ih1 _ _ _ _ _
   | exact ih2 _ _ _ _ _
   | exact impl_FlatStep.mono _ _ _ _ _
   | exact impl_LoopsFrom.mono _ _ _
   | exact impl_WritesFrom.mono _ _ _
   | exact spec_DrawSteps.mono _ _
   | exact spec_LoopsFrom.mono _ _ _
   | exact spec_WritesFrom.mono _ _ _
   | exact LeO.none _
   | refine LeO.ite ?_ ?_
   | refine LeO.bind ?_ (fun _ => ?_)
def laws_FnNoLoopEnds.T5 : Bool × List (List Nat × List Nat) := (true, [([], []), ([], []), ([1], [1]), ([0, 2], [0, 2]), ([], []), ([], []), ([5], [5]), ([4, 6, 3], [4, 6]), ([3, 7], [3, 7]), ([8, 7], [8]), ([9], [9]), ([9], [9]), ([11, 9], [9, 11]), ([10, 12, 9, 9], [9, 10, 12]), ([9], [9]), ([9], [9]), ([15, 9], [9, 15]), ([14, 16, 13, 9], [9, 14, 16]), ([13, 17, 9], [9, 13, 17]), ([9, 18], [9, 18])])
def laws_FnNoLoopEnds.B5 : List Nat := [0, 0, 2, 7, 0, 0, 32, 127, 255, 511, 1023, 1023, 3071, 8191, 1023, 1023, 33791, 131071, 262143, 524287]
theorem laws_FnNoLoopEnds.tab5 : rtab .any (opsOf Try.f3 5) = laws_FnNoLoopEnds.T5 := by kernel_rfl
theorem laws_FnNoLoopEnds.bits5 : waitsOk laws_FnNoLoopEnds.T5.2 laws_FnNoLoopEnds.B5 = true := by kernel_rfl
set_option maxHeartbeats 8000000 in
set_option maxRecDepth 100000 in
theorem laws_FnNoLoopEnds.calls (k : Nat) (A0 : Option Addr) (c0 : Nat) (l0 : List Int) (r : Bool) (w : World) (hr0 : Kd.C (Kd.int .u8) w A0 l0.length l0) (hc0 : l0.length ≤ c0) (h : laws_FnNoLoopEnds.f k l0 = some r) :
  Calls Try.prog 3 #[.slice A0 l0.length c0] w fun e w' => e = .returned (.bool r) ∧ Below w.heap.size w w' := by
 have hu29 := Try.underlying29
 have HR0 := Aside0.mk hr0
 have HC0 := Aside0.mk hc0
 clear hr0 hc0
 have HB := Aside0.mk (Below.refl w.heap.size w)
 have H : ((laws_big.f l0).bind fun t570 => (if t570 = true then (some true) else ((spec_DrawSteps.f k l0).bind fun bt571 => (if 0 < (bt571.2.1.length : Int) then ((impl_copyHart.f ((rd_T29 bt571.2.1 0).f0) ((rd_T29 bt571.2.1 0).f1) ((rd_T29 bt571.2.1 0).f2)).bind fun bt582 => ((impl_LoopsFrom.f k bt571.1 bt582.2.1).bind fun t587 => ((spec_LoopsFrom.f k bt571.1 bt582.2.1).bind fun t588 => (if (t587 != t588) = true then (laws_FnNoLoopEnds.j0 k bt571.1 true bt582.1 bt582.2.1 bt582.2.2) else ((impl_WritesFrom.f k bt571.1 bt582.2.1).bind fun t589 => ((spec_WritesFrom.f k bt571.1 bt582.2.1).bind fun t590 => (laws_FnNoLoopEnds.j0 k bt571.1 (t589 != t590) bt582.1 bt582.2.1 bt582.2.2))))))) else (none))))) = some r := h
 clear h
 replace H := Option.bind_eq_some_iff.mp H
 obtain ⟨t570, A20, H⟩ := H
 replace H : (if t570 = true then (some true) else ((spec_DrawSteps.f k l0).bind fun bt571 => (if 0 < (bt571.2.1.length : Int) then ((impl_copyHart.f ((rd_T29 bt571.2.1 0).f0) ((rd_T29 bt571.2.1 0).f1) ((rd_T29 bt571.2.1 0).f2)).bind fun bt582 => ((impl_LoopsFrom.f k bt571.1 bt582.2.1).bind fun t587 => ((spec_LoopsFrom.f k bt571.1 bt582.2.1).bind fun t588 => (if (t587 != t588) = true then (laws_FnNoLoopEnds.j0 k bt571.1 true bt582.1 bt582.2.1 bt582.2.2) else ((impl_WritesFrom.f k bt571.1 bt582.2.1).bind fun t589 => ((spec_WritesFrom.f k bt571.1 bt582.2.1).bind fun t590 => (laws_FnNoLoopEnds.j0 k bt571.1 (t589 != t590) bt582.1 bt582.2.1 bt582.2.2))))))) else (none)))) = some r := H
 have A2 := Aside0.mk A20
 clear A20
 by_cases c3 : t570 = true
 ·subst c3
  have H1 : (some true) = some r := by rw [if_pos rfl] at H; exact H
  clear H
  have H := H1
  clear H1
  obtain rfl := Option.some.inj H
  go_enter Try.func3, Try.ntmps3
  go_wp2_with (first | ((with_reducible refine gate_callee (f := 4) rfl ?_); refine goesL_ (some 9) rfl rfl Try.func4 (by kernel_rfl) rfl #[.slice A0 l0.length c0] rfl zT14 ?_; (with_reducible refine (laws_big.calls _ _ l0 true _ ?side1 ?side2 A2.out).mono ?_); (case side1 => exact zC14 HR0.out); (case side2 => exact HC0.out); rintro e w' ⟨rfl, ⟨nd, rfl⟩⟩; refine ⟨_, rfl, ?_⟩))
  go_ret
  exact ⟨zE14, zB14_0⟩
 replace c3 := Bool.eq_false_iff.mpr c3
 subst c3
 have H1 : ((spec_DrawSteps.f k l0).bind fun bt571 => (if 0 < (bt571.2.1.length : Int) then ((impl_copyHart.f ((rd_T29 bt571.2.1 0).f0) ((rd_T29 bt571.2.1 0).f1) ((rd_T29 bt571.2.1 0).f2)).bind fun bt582 => ((impl_LoopsFrom.f k bt571.1 bt582.2.1).bind fun t587 => ((spec_LoopsFrom.f k bt571.1 bt582.2.1).bind fun t588 => (if (t587 != t588) = true then (laws_FnNoLoopEnds.j0 k bt571.1 true bt582.1 bt582.2.1 bt582.2.2) else ((impl_WritesFrom.f k bt571.1 bt582.2.1).bind fun t589 => ((spec_WritesFrom.f k bt571.1 bt582.2.1).bind fun t590 => (laws_FnNoLoopEnds.j0 k bt571.1 (t589 != t590) bt582.1 bt582.2.1 bt582.2.2))))))) else (none))) = some r := by rw [if_neg (show ¬ (false = true) by decide)] at H; exact H
 clear H
 have H := H1
 clear H1
 replace H := Option.bind_eq_some_iff.mp H
 obtain ⟨⟨t571, t572, t573⟩, A40, H⟩ := H
 replace H : (if 0 < (t572.length : Int) then ((impl_copyHart.f ((rd_T29 t572 0).f0) ((rd_T29 t572 0).f1) ((rd_T29 t572 0).f2)).bind fun bt582 => ((impl_LoopsFrom.f k t571 bt582.2.1).bind fun t587 => ((spec_LoopsFrom.f k t571 bt582.2.1).bind fun t588 => (if (t587 != t588) = true then (laws_FnNoLoopEnds.j0 k t571 true bt582.1 bt582.2.1 bt582.2.2) else ((impl_WritesFrom.f k t571 bt582.2.1).bind fun t589 => ((spec_WritesFrom.f k t571 bt582.2.1).bind fun t590 => (laws_FnNoLoopEnds.j0 k t571 (t589 != t590) bt582.1 bt582.2.1 bt582.2.2))))))) else (none)) = some r := H
 have A4 := Aside0.mk A40
 clear A40
 by_cases c5 : 0 < (t572.length : Int)
 rotate_left
 ·rw [if_neg c5] at H
  exact absurd H (by simp)
 rw [if_pos c5] at H
 have c5b0 : decide (0 < (t572.length : Int)) = true := decide_eq_true c5
 have c5b1 : decide (0 < t572.length) = true := decide_eq_true (by omega)
 clear c5
 replace H := Option.bind_eq_some_iff.mp H
 obtain ⟨⟨t582, t585, t586⟩, A60, H⟩ := H
 replace H : ((impl_LoopsFrom.f k t571 t585).bind fun t587 => ((spec_LoopsFrom.f k t571 t585).bind fun t588 => (if (t587 != t588) = true then (laws_FnNoLoopEnds.j0 k t571 true t582 t585 t586) else ((impl_WritesFrom.f k t571 t585).bind fun t589 => ((spec_WritesFrom.f k t571 t585).bind fun t590 => (laws_FnNoLoopEnds.j0 k t571 (t589 != t590) t582 t585 t586)))))) = some r := H
 have A6 := Aside0.mk A60
 clear A60
 have HC7 := Aside0.mk H
 clear H
 go_enter Try.func3, Try.ntmps3
 go_upto_region 5 with (first | ((with_reducible refine gate_callee (f := 4) rfl ?_); refine goesL_ (some 9) rfl rfl Try.func4 (by kernel_rfl) rfl #[.slice A0 l0.length c0] rfl zT14 ?_; (with_reducible refine (laws_big.calls _ _ l0 false _ ?side1 ?side2 A2.out).mono ?_); (case side1 => exact zC14 HR0.out); (case side2 => exact HC0.out); rintro e w' ⟨rfl, ⟨nd, rfl⟩⟩; refine ⟨_, rfl, ?_⟩) | ((with_reducible refine gate_callee (f := 5) rfl ?_); refine goesL_ (some 12) rfl rfl Try.func5 (by kernel_rfl) rfl #[.slice A0 l0.length c0] rfl zT14 ?_; (with_reducible refine (spec_DrawSteps.calls k _ _ l0 t571 t572 t573 _ ?side1 ?side2 A4.out).mono ?_); (case side1 => exact zC14 HR0.out); (case side2 => exact HC0.out); rintro e w8 ⟨v574, v576, v578, rfl, ho0, ho1, ho2, hb⟩; refine ⟨_, rfl, ?_⟩; have n0_ := Aside0.mk (Kd.R_lower ho0 (below_size (zB14_0))); have n1_ := Aside0.mk (Kd.S_lower ho1 (below_size (zB14_0))); have n2_ := Aside0.mk (Kd.R_lower ho2 (below_size (zB14_0))); have n3_ := Aside0.mk (below_step (zB14_0) hb); clear HB; have HO575 := n0_; have HO577 := n1_; have HO579 := n2_; have HB := n3_; clear n0_ n1_ n2_ n3_; (try clear hb); (try clear hb2); (try clear hk); (try clear hi); (try clear ho0); (try clear ho1); (try clear ho2); obtain ⟨Ao9, co9, eo9⟩ := Kd.S_slice HO577.out; subst eo9; have p580 : 0 ≤ (0 : Int) := (by omega); have q580 : 0 < (t572.length : Int) := zA14; obtain ⟨ad580, A580_0, c580_0, e580, hx580_0, hx580_1, hx580_2, hl580_0, hi580_0⟩ := at_T29 (Kd.S_reads' HO577.out).2.2 0 p580 q580; cases e580; obtain ⟨ce580, hce580, hMe580, hcc580⟩ := Kd.S_get HO577.out z29 0 p580 (by first | exact q580 | exact zA14 | (have e_ := (Kd.S_reads' HO577.out).1; omega)); obtain ⟨ve580_0, rfl, ge580_0⟩ := k29_openM hMe580; have hv580_0 := hcc580 0 _ rfl; rw [Nat.add_zero] at hv580_0; replace hv580_0 := Option.some.inj (hv580_0.symm.trans hx580_0); rw [hv580_0] at ge580_0; have HL580_0 := Aside0.mk (show Kd.R (Kd.int .i64) 3 _ _ _ _ ((rd_T29 t572 0).f0) from ge580_0); clear hv580_0 ge580_0; clear hcc580 hce580; have qi580 : (0 < t572.length) = True := eq_true (by omega); (try rw [show ((0 : Int)).toNat = 0 from rfl] at hx580_0); (try rw [show 0 * 3 = 0 from rfl] at hx580_0); (try rw [Addr.add_zero'] at hx580_0); (try rw [show ((0 : Int)).toNat = 0 from rfl] at hx580_1); (try rw [show 0 * 3 = 0 from rfl] at hx580_1); (try rw [Addr.add_zero'] at hx580_1); (try rw [show ((0 : Int)).toNat = 0 from rfl] at hx580_2); (try rw [show 0 * 3 = 0 from rfl] at hx580_2); (try rw [Addr.add_zero'] at hx580_2); have HR580_0 := Aside0.mk hi580_0; have HC580_0 := Aside0.mk hl580_0; clear hi580_0 hl580_0; replace p580 := eq_true p580; replace q580 := eq_true q580; obtain ⟨e0_, e1_, e2_⟩ := copyHart_eq A6.out; rw [← e0_] at hx580_0 HL580_0; rw [← e1_] at hx580_1; rw [← e2_] at hx580_2; clear e0_ e1_ e2_) | ((with_reducible refine gate_dst (N := 6) rfl ?_); refine box_event ?hg (N := 6) ?hd (cs := #[.slice none 0 0, .int .i64 0, .int .i64 0]) (t := 29) ?hr ?_; (case hd => rfl); (case hg => rfl); (case hr => first | (go_simp; done) | (go_simp; rfl)); intro gb581 hg w10 hbox hb; have n0_ := Aside0.mk (Kd.R_below (zR14 HO575.out) hb); have n1_ := Aside0.mk (Kd.S_below (Kd.S_elderB (zS14 HO577.out) gb581 (Nat.le_of_eq hg.symm)) hb); have n2_ := Aside0.mk (Kd.R_below (zR14 HO579.out) hb); have n3_ := Aside0.mk (Kd.R_below (zR14 HL580_0.out) hb); have n4_ := Aside0.mk (Kd.C_below (by repeat (first | (with_reducible exact HR580_0.out) | (with_reducible refine Kd.C_alloc ?_ _) | (with_reducible refine Kd.C_drewN ?_ _) | (with_reducible refine Kd.C_drew ?_) | exact HR580_0.out)) hb); have n5_ := Aside0.mk (below_step (zB14_0) hb); have n6_ := Aside0.mk (hbox); have n7_ := Aside0.mk ((by rw [hg]; exact (below_size (zB14_0)) : w.heap.size ≤ gb581)); have n8_ := Aside0.mk ((by rw [hg]; exact (below_size (zB14_0)) : w.heap.size ≤ gb581)); clear HO575; clear HO577; clear HO579; clear HL580_0; clear HR580_0; clear HB; have HO575 := n0_; have HO577 := n1_; have HO579 := n2_; have HL580_0 := n3_; have HR580_0 := n4_; have HB := n5_; have BK581 := n6_; have GW581 := n7_; have GE581 := n8_; clear n0_ n1_ n2_ n3_ n4_ n5_ n6_ n7_ n8_; clear hb hbox hg; have HO584 := Aside0.mk (show Kd.R (Kd.int .i64) 3 w10 w.heap.size (fun k_ => ((True ∧ some k_ ≠ (v574 : Value).ownBlock) ∧ some k_ ≠ (v578 : Value).ownBlock) ∧ True) (.slice A580_0 t582.length c580_0) t582 from Kd.R_mono HL580_0.out (fun _ hk => ⟨⟨⟨trivial, hk.1.1⟩, hk.1.2⟩, trivial⟩)); have m0_ := Aside0.mk (R_two rfl HO575.out HO584.out (fun _ hk => hk.1.1.2)); clear HO575; have HO575 := m0_; clear m0_; have m0_ := Aside0.mk (R_two rfl HO579.out HO584.out (fun _ hk => hk.1.2)); clear HO579; have HO579 := m0_; clear m0_; clear HO577 HL580_0; obtain ⟨hcz13_0, hcz13_1, hcz13_2, hfz13_0, hfz13_1, hfz13_2⟩ := zc14_3 (w := w10) BK581.out))
 (try simp only [Act.put, List.setIfInBounds_toArray, List.set_cons_zero, List.set_cons_succ])
 go_cut [38] (fun v38 wc => ∃ (kq : Nat) (x38_6 : Bool), v38 = .bool x38_6 ∧ Aside0 (laws_FnNoLoopEnds.j0 kq t571 x38_6 t582 t585 t586 = some r) ∧ Aside0 (kq ≤ k) ∧ Aside0 (Kd.R (Kd.int .i64) 3 wc w.heap.size (fun k_ => some k_ ≠ ((.slice A580_0 t582.length c580_0) : Value).ownBlock) v574 t571) ∧ Aside0 (Kd.R (Kd.int .i64) 3 wc w.heap.size (fun k_ => some k_ ≠ (v574 : Value).ownBlock) (.slice A580_0 t582.length c580_0) t582) ∧ Aside0 (wc.heap[gb581]? = some (.cells #[(.slice A580_0 t582.length c580_0), .int .i64 t585, .int .i64 t586] 29 (0, 0))) ∧ Aside0 (Below w.heap.size w wc))
 case first =>
  have H := HC7.out
  clear HC7
  replace H := Option.bind_eq_some_iff.mp H
  obtain ⟨t587, A140, H⟩ := H
  replace H : ((spec_LoopsFrom.f k t571 t585).bind fun t588 => (if (t587 != t588) = true then (laws_FnNoLoopEnds.j0 k t571 true t582 t585 t586) else ((impl_WritesFrom.f k t571 t585).bind fun t589 => ((spec_WritesFrom.f k t571 t585).bind fun t590 => (laws_FnNoLoopEnds.j0 k t571 (t589 != t590) t582 t585 t586))))) = some r := H
  have A14 := Aside0.mk A140
  clear A140
  replace H := Option.bind_eq_some_iff.mp H
  obtain ⟨t588, A150, H⟩ := H
  replace H : (if (t587 != t588) = true then (laws_FnNoLoopEnds.j0 k t571 true t582 t585 t586) else ((impl_WritesFrom.f k t571 t585).bind fun t589 => ((spec_WritesFrom.f k t571 t585).bind fun t590 => (laws_FnNoLoopEnds.j0 k t571 (t589 != t590) t582 t585 t586)))) = some r := H
  have A15 := Aside0.mk A150
  clear A150
  by_cases c16 : (t587 != t588) = true
  ·rw [if_pos c16] at H
   have c16b0 : (t587 != t588) = true := c16
   (try (have c16b1 : decide (t587 = t588) = false := by simpa using c16))
   (try (have c16b2 : (t587 == t588) = false := by simpa using c16))
   (try (have c16b3 : ¬ (t587 = t588) := by simpa using c16))
   clear c16
   (first | rw [c16b0] | (simp only [i64_w, i32_w]; rw [c16b0]) | skip)
   have H' := Aside0.mk H
   clear H
   try go_wp2
   have n0_ : Aside0 (Kd.R (Kd.int .i64) 3 (((w10.setCell ⟨gb581, 0, none⟩ (.slice A580_0 t582.length c580_0)).setCell ⟨gb581, 1, none⟩ (.int .i64 t585)).setCell ⟨gb581, 2, none⟩ (.int .i64 t586)) w.heap.size (fun k_ => some k_ ≠ (v578 : Value).ownBlock ∧ some k_ ≠ (.slice A580_0 t582.length c580_0 : Value).ownBlock) v574 t571) := ⟨by (with_reducible repeat (first | apply Kd.R_alloc | apply Kd.R_drewN | apply Kd.R_drew)); exact Kd.R_mono (Kd.R_far (p := ⟨gb581, 2, none⟩) (Kd.R_far (p := ⟨gb581, 1, none⟩) (Kd.R_far (p := ⟨gb581, 0, none⟩) (Kd.R_types HO575.out BK581.out (by decide)) (fun _ hk => hk.2) (.slice A580_0 t582.length c580_0)) (fun _ hk => hk.2) (.int .i64 t585)) (fun _ hk => hk.2) (.int .i64 t586)) (fun _ hk => ⟨hk.1.1, hk.1.2⟩)⟩
   have n2_ : Aside0 (Kd.R (Kd.int .i64) 3 (((w10.setCell ⟨gb581, 0, none⟩ (.slice A580_0 t582.length c580_0)).setCell ⟨gb581, 1, none⟩ (.int .i64 t585)).setCell ⟨gb581, 2, none⟩ (.int .i64 t586)) w.heap.size (fun k_ => some k_ ≠ (v574 : Value).ownBlock ∧ some k_ ≠ (.slice A580_0 t582.length c580_0 : Value).ownBlock) v578 t573) := ⟨by (with_reducible repeat (first | apply Kd.R_alloc | apply Kd.R_drewN | apply Kd.R_drew)); exact Kd.R_mono (Kd.R_far (p := ⟨gb581, 2, none⟩) (Kd.R_far (p := ⟨gb581, 1, none⟩) (Kd.R_far (p := ⟨gb581, 0, none⟩) (Kd.R_types HO579.out BK581.out (by decide)) (fun _ hk => hk.2) (.slice A580_0 t582.length c580_0)) (fun _ hk => hk.2) (.int .i64 t585)) (fun _ hk => hk.2) (.int .i64 t586)) (fun _ hk => ⟨hk.1.1, hk.1.2⟩)⟩
   have n4_ : Aside0 (Kd.R (Kd.int .i64) 3 (((w10.setCell ⟨gb581, 0, none⟩ (.slice A580_0 t582.length c580_0)).setCell ⟨gb581, 1, none⟩ (.int .i64 t585)).setCell ⟨gb581, 2, none⟩ (.int .i64 t586)) w.heap.size (fun k_ => some k_ ≠ (v574 : Value).ownBlock ∧ some k_ ≠ (v578 : Value).ownBlock ∧ True) (.slice A580_0 t582.length c580_0) t582) := ⟨by (with_reducible repeat (first | apply Kd.R_alloc | apply Kd.R_drewN | apply Kd.R_drew)); exact Kd.R_mono (Kd.R_far (p := ⟨gb581, 2, none⟩) (Kd.R_far (p := ⟨gb581, 1, none⟩) (Kd.R_far (p := ⟨gb581, 0, none⟩) (Kd.R_types HO584.out BK581.out (by decide)) (fun _ hk => hk.2) (.slice A580_0 t582.length c580_0)) (fun _ hk => hk.2) (.int .i64 t585)) (fun _ hk => hk.2) (.int .i64 t586)) (fun _ hk => ⟨hk.1.1.1.2, ⟨hk.1.1.2, hk.1.2⟩⟩)⟩
   have n5_ : Aside0 ((((w10.setCell ⟨gb581, 0, none⟩ (.slice A580_0 t582.length c580_0)).setCell ⟨gb581, 1, none⟩ (.int .i64 t585)).setCell ⟨gb581, 2, none⟩ (.int .i64 t586)).heap[gb581]? = some (.cells #[.slice A580_0 t582.length c580_0, .int .i64 t585, .int .i64 t586] 29 (0, 0))) := ⟨by refine zP14 ?_; refine blk_put (cs := #[.slice A580_0 t582.length c580_0, .int .i64 t585, .int .i64 0]) ?_ 2 _ rfl; refine zP14 ?_; refine blk_put (cs := #[.slice A580_0 t582.length c580_0, .int .i64 0, .int .i64 0]) ?_ 1 _ rfl; refine zP14 ?_; refine blk_put (cs := #[.slice none 0 0, .int .i64 0, .int .i64 0]) ?_ 0 _ rfl; refine zP14 ?_; exact BK581.out⟩
   have n6_ : Aside0 (Below w.heap.size w (((w10.setCell ⟨gb581, 0, none⟩ (.slice A580_0 t582.length c580_0)).setCell ⟨gb581, 1, none⟩ (.int .i64 t585)).setCell ⟨gb581, 2, none⟩ (.int .i64 t586))) := ⟨zB14_1⟩
   (try clear HO575)
   (try clear HO577)
   (try clear HO579)
   (try clear HL580_0)
   (try clear HO584)
   (try clear BK581)
   (try clear HB)
   generalize (((w10.setCell ⟨gb581, 0, none⟩ (.slice A580_0 t582.length c580_0)).setCell ⟨gb581, 1, none⟩ (.int .i64 t585)).setCell ⟨gb581, 2, none⟩ (.int .i64 t586)) = w17 at n0_ n2_ n4_ n5_ n6_ ⊢
   have HO575 := n0_
   have HO579 := n2_
   have HO584 := n4_
   have BK581 := n5_
   have HB := n6_
   clear n0_ n2_ n4_ n5_ n6_
   have n0_ := Aside0.mk (Kd.R_drew HO575.out)
   have n2_ := Aside0.mk (Kd.R_drew HO579.out)
   have n4_ := Aside0.mk (Kd.R_drew HO584.out)
   have n5_ := Aside0.mk (blk_drew BK581.out)
   have n6_ := Aside0.mk (below_drew1 HB.out)
   clear HO575 HO579 HO584 BK581 HB
   have HO575 := n0_
   have HO579 := n2_
   have HO584 := n4_
   have BK581 := n5_
   have HB := n6_
   clear n0_ n2_ n4_ n5_ n6_
   obtain ⟨Ao19, co19, eo19⟩ := Kd.R_slice HO575.out
   (first | subst eo19 | (injection eo19 with f1_ f2_ f3_; have f4_ := f1_.symm; have f5_ := f3_.symm; clear f1_ f2_ f3_; subst f4_; subst f5_))
   refine start_ (n := 20) (S := fun w' => w'.cell? ⟨gb581, 0, none⟩ = some (.slice A580_0 t582.length c580_0) ∧ w'.cell? ⟨gb581, 1, none⟩ = some (.int .i64 t585) ∧ w'.cell? ⟨gb581, 2, none⟩ = some (.int .i64 t586)) (ds := []) zq14_0 (by kernel_rfl) rfl rfl ⟨(blk_cell BK581.out 0).trans rfl, (blk_cell BK581.out 1).trans rfl, (blk_cell BK581.out 2).trans rfl⟩ (fun hHeld => ?_); refine with_tabW laws_FnNoLoopEnds.tab5 laws_FnNoLoopEnds.bits5 (fun HT_ HW_ => ?_)
   generalize w17.drew = w18 at HO575 HO579 HO584 BK581 HB hHeld ⊢
   refine pure_ (i := 0) (N := some 19) (v := ?_) (a' := ?_) zq14_1 rfl rfl (any_of HT_.out (by kernel_rfl)) (fun _ _ _ h => h) (Or.inl ⟨by rfl, ?_⟩) ?_ ?_
   rotate_left
   ·intro w'
    go_simp
    with_reducible rfl
   rotate_left
   ·exact zV14
   refine pure_ (i := 1) (N := some 20) (v := ?_) (a' := ?_) zq14_2 rfl rfl (any_of HT_.out (by kernel_rfl)) (fun _ _ _ h => h) (Or.inl ⟨by rfl, ?_⟩) ?_ ?_
   rotate_left
   ·intro w'
    go_simp
    with_reducible rfl
   rotate_left
   ·exact zV14
   refine pure_ (i := 4) (N := some 23) (v := ?_) (a' := ?_) zq14_3 rfl rfl (any_of HT_.out (by kernel_rfl)) (fun _ _ _ h => h) (Or.inl ⟨by rfl, ?_⟩) ?_ ?_
   rotate_left
   ·intro w'
    go_simp
    with_reducible rfl
   rotate_left
   ·exact zV14
   refine pure_ (i := 5) (N := some 24) (v := ?_) (a' := ?_) zq14_4 rfl rfl (any_of HT_.out (by kernel_rfl)) (fun _ _ _ h => h) (Or.inl ⟨by rfl, ?_⟩) ?_ ?_
   rotate_left
   ·intro w'
    go_simp
    with_reducible rfl
   rotate_left
   ·exact zV14
   refine take_ (i := 2) (N := some 21) (v := ?_) (a' := ?_) zq14_5 rfl rfl (take_ofW HT_.out HW_.out (by kernel_rfl)) (fun _ _ _ h => h) (Or.inl ⟨by rfl, ?_⟩) hHeld ?_ ?_
   rotate_left
   ·rintro w' ⟨s0, s1, s2⟩
    go_simp
    with_reducible rfl
   rotate_left
   ·exact zV14
   refine take_ (i := 6) (N := some 25) (v := ?_) (a' := ?_) zq14_6 rfl rfl (take_ofW HT_.out HW_.out (by kernel_rfl)) (fun _ _ _ h => h) (Or.inl ⟨by rfl, ?_⟩) hHeld ?_ ?_
   rotate_left
   ·rintro w' ⟨s0, s1, s2⟩
    go_simp
    with_reducible rfl
   rotate_left
   ·exact zV14
   refine one_ (i := 3) (N := some 22) zq14_7 rfl rfl (one_of HT_.out (by kernel_rfl)) (by decide) (fun K hK => ?_)
   refine goes_ Try.func6 (by kernel_rfl) rfl #[.slice Ao19 t571.length co19, .int .i64 t585] (by rfl) rfl rfl zT14 ?_
   with_reducible refine (impl_LoopsFrom.calls k _ _ t571 t585 t587 _ ?side1 ?side2 A14.out).mono ?_
   (case side1 => exact zC14 (Kd.R_reads' HO575.out).2.2)
   (case side2 => exact (Kd.R_reads' HO575.out).2.1)
   rintro e w20 ⟨rfl, hb⟩
   refine ⟨_, rfl, ?_⟩
   have n0_ := Aside0.mk (Kd.R_below (zR14 HO575.out) hb)
   have n2_ := Aside0.mk (Kd.R_below (zR14 HO579.out) hb)
   have n4_ := Aside0.mk (Kd.R_below (zR14 HO584.out) hb)
   have n5_ := Aside0.mk (zb14 BK581.out hb)
   have n6_ := Aside0.mk (below_step (zB14_1) hb)
   clear HO575 HO579 HO584 BK581 HB
   have HO575 := n0_
   have HO579 := n2_
   have HO584 := n4_
   have BK581 := n5_
   have HB := n6_
   clear n0_ n2_ n4_ n5_ n6_
   (try clear hb)
   (try clear hb2)
   (try clear hk)
   (try clear hi)
   refine hK.out _ _ ⟨(blk_cell BK581.out 0).trans rfl, (blk_cell BK581.out 1).trans rfl, (blk_cell BK581.out 2).trans rfl⟩ (fun hHeld => ?_)
   clear hK K
   refine norm_ (a' := ?_) ?_ ?_
   rotate_left
   ·show Act.put _ (some 22) _ = _
    simp only [Act.put, List.setIfInBounds_toArray, List.set_cons_zero, List.set_cons_succ, i64_w, i32_w]
    rfl
   refine one_ (i := 7) (N := some 26) zq14_8 rfl rfl (one_of HT_.out (by kernel_rfl)) (by decide) (fun K hK => ?_)
   refine goes_ Try.func7 (by kernel_rfl) rfl #[.slice Ao19 t571.length co19, .int .i64 t585] (by rfl) rfl rfl zT14 ?_
   with_reducible refine (spec_LoopsFrom.calls k _ _ t571 t585 t588 _ ?side1 ?side2 A15.out).mono ?_
   (case side1 => exact zC14 (Kd.R_reads' HO575.out).2.2)
   (case side2 => exact (Kd.R_reads' HO575.out).2.1)
   rintro e w21 ⟨rfl, hb⟩
   refine ⟨_, rfl, ?_⟩
   have n0_ := Aside0.mk (Kd.R_below (zR14 HO575.out) hb)
   have n2_ := Aside0.mk (Kd.R_below (zR14 HO579.out) hb)
   have n4_ := Aside0.mk (Kd.R_below (zR14 HO584.out) hb)
   have n5_ := Aside0.mk (zb14 BK581.out hb)
   have n6_ := Aside0.mk (below_step (zB14_1) hb)
   clear HO575 HO579 HO584 BK581 HB
   have HO575 := n0_
   have HO579 := n2_
   have HO584 := n4_
   have BK581 := n5_
   have HB := n6_
   clear n0_ n2_ n4_ n5_ n6_
   (try clear hb)
   (try clear hb2)
   (try clear hk)
   (try clear hi)
   refine hK.out _ _ ⟨(blk_cell BK581.out 0).trans rfl, (blk_cell BK581.out 1).trans rfl, (blk_cell BK581.out 2).trans rfl⟩ (fun hHeld => ?_)
   clear hK K
   refine norm_ (a' := ?_) ?_ ?_
   rotate_left
   ·show Act.put _ (some 26) _ = _
    simp only [Act.put, List.setIfInBounds_toArray, List.set_cons_zero, List.set_cons_succ, i64_w, i32_w]
    rfl
   refine pure_ (i := 8) (N := some 27) (v := ?_) (a' := ?_) zq14_9 rfl rfl (any_of HT_.out (by kernel_rfl)) (fun _ _ _ h => h) (Or.inl ⟨by rfl, ?_⟩) ?_ ?_
   rotate_left
   ·intro w'
    go_simp
    with_reducible rfl
   rotate_left
   ·exact zV14
   refine pure_ (i := 9) (N := some 28) (v := ?_) (a' := ?_) zq14_10 rfl rfl (any_of HT_.out (by kernel_rfl)) (fun _ _ _ h => h) (Or.inl ⟨by rfl, ?_⟩) ?_ ?_
   rotate_left
   ·intro w'
    go_simp
    with_reducible rfl
   rotate_left
   ·exact zV14
   refine pure_ (i := 10) (N := some 29) (v := undef) (a' := ?_) zq14_11 rfl rfl (any_of HT_.out (by kernel_rfl)) (fun _ _ _ h => h) (Or.inr ⟨by rfl, rfl⟩) ?_ ?_
   rotate_left
   ·exact zV14
   refine pure_ (i := 11) (N := some 30) (v := undef) (a' := ?_) zq14_12 rfl rfl (any_of HT_.out (by kernel_rfl)) (fun _ _ _ h => h) (Or.inr ⟨by rfl, rfl⟩) ?_ ?_
   rotate_left
   ·exact zV14
   refine pure_ (i := 12) (N := some 31) (v := undef) (a' := ?_) #[true, true, true, true, true, true, true, true, true, true, true, true, true, false, false, false, false, false, false, false] rfl rfl (any_of HT_.out (by kernel_rfl)) (fun _ _ _ h => h) (Or.inr ⟨by rfl, rfl⟩) ?_ ?_
   rotate_left
   ·exact zV14
   refine pure_ (i := 13) (N := some 32) (v := undef) (a' := ?_) #[true, true, true, true, true, true, true, true, true, true, true, true, true, true, false, false, false, false, false, false] rfl rfl (any_of HT_.out (by kernel_rfl)) (fun _ _ _ h => h) (Or.inr ⟨by rfl, rfl⟩) ?_ ?_
   rotate_left
   ·exact zV14
   refine pure_ (i := 14) (N := some 33) (v := undef) (a' := ?_) #[true, true, true, true, true, true, true, true, true, true, true, true, true, true, true, false, false, false, false, false] rfl rfl (any_of HT_.out (by kernel_rfl)) (fun _ _ _ h => h) (Or.inr ⟨by rfl, rfl⟩) ?_ ?_
   rotate_left
   ·exact zV14
   refine pure_ (i := 15) (N := some 34) (v := undef) (a' := ?_) #[true, true, true, true, true, true, true, true, true, true, true, true, true, true, true, true, false, false, false, false] rfl rfl (any_of HT_.out (by kernel_rfl)) (fun _ _ _ h => h) (Or.inr ⟨by rfl, rfl⟩) ?_ ?_
   rotate_left
   ·exact zV14
   refine pure_ (i := 16) (N := some 35) (v := undef) (a' := ?_) zq14_13 rfl rfl (any_of HT_.out (by kernel_rfl)) (fun _ _ _ h => h) (Or.inr ⟨by rfl, rfl⟩) ?_ ?_
   rotate_left
   ·exact zV14
   refine pure_ (i := 17) (N := some 36) (v := undef) (a' := ?_) zq14_14 rfl rfl (any_of HT_.out (by kernel_rfl)) (fun _ _ _ h => h) (Or.inr ⟨by rfl, rfl⟩) ?_ ?_
   rotate_left
   ·exact zV14
   refine pure_ (i := 18) (N := some 37) (v := undef) (a' := ?_) zq14_15 rfl rfl (any_of HT_.out (by kernel_rfl)) (fun _ _ _ h => h) (Or.inr ⟨by rfl, rfl⟩) ?_ ?_
   rotate_left
   ·exact zV14
   refine pure_ (i := 19) (N := some 38) (v := ?_) (a' := ?_) zq14_16 rfl rfl (any_of HT_.out (by kernel_rfl)) (fun _ _ _ h => h) (Or.inl ⟨by rfl, ?_⟩) ?_ ?_
   rotate_left
   ·intro w'
    go_simp
    with_reducible rfl
   rotate_left
   ·exact zV14
   refine done_ (done_of HT_.out (by kernel_rfl)) ?_
   try go_wp2
   go_meet
   case rel => exact ⟨_, (true), (by first | rfl | (simp; done) | (simp [*]; done)), H', ⟨by first | omega | exact Nat.le_refl _⟩, ⟨by (with_reducible repeat (first | apply Kd.R_alloc | apply Kd.R_drewN | apply Kd.R_drew)); exact Kd.R_mono HO575.out (fun _ hk => hk.2)⟩, ⟨by (with_reducible repeat (first | apply Kd.R_alloc | apply Kd.R_drewN | apply Kd.R_drew)); exact Kd.R_mono HO584.out (fun _ hk => hk.1)⟩, ⟨zK14 BK581.out⟩, ⟨zB14_1⟩⟩
  rw [if_neg c16] at H
  have c16b0 : (t587 != t588) = false := by simpa using c16
  (try (have c16b1 : decide (t587 = t588) = true := by simpa using c16))
  (try (have c16b2 : (t587 == t588) = true := by simpa using c16))
  clear c16
  (first | rw [c16b0] | (simp only [i64_w, i32_w]; rw [c16b0]) | skip)
  replace H := Option.bind_eq_some_iff.mp H
  obtain ⟨t589, A220, H⟩ := H
  replace H : ((spec_WritesFrom.f k t571 t585).bind fun t590 => (laws_FnNoLoopEnds.j0 k t571 (t589 != t590) t582 t585 t586)) = some r := H
  have A22 := Aside0.mk A220
  clear A220
  replace H := Option.bind_eq_some_iff.mp H
  obtain ⟨t590, A230, H⟩ := H
  replace H : (laws_FnNoLoopEnds.j0 k t571 (t589 != t590) t582 t585 t586) = some r := H
  have A23 := Aside0.mk A230
  clear A230
  have H' := Aside0.mk H
  clear H
  try go_wp2
  have n0_ : Aside0 (Kd.R (Kd.int .i64) 3 (((w10.setCell ⟨gb581, 0, none⟩ (.slice A580_0 t582.length c580_0)).setCell ⟨gb581, 1, none⟩ (.int .i64 t585)).setCell ⟨gb581, 2, none⟩ (.int .i64 t586)) w.heap.size (fun k_ => some k_ ≠ (v578 : Value).ownBlock ∧ some k_ ≠ (.slice A580_0 t582.length c580_0 : Value).ownBlock) v574 t571) := ⟨by (with_reducible repeat (first | apply Kd.R_alloc | apply Kd.R_drewN | apply Kd.R_drew)); exact Kd.R_mono (Kd.R_far (p := ⟨gb581, 2, none⟩) (Kd.R_far (p := ⟨gb581, 1, none⟩) (Kd.R_far (p := ⟨gb581, 0, none⟩) (Kd.R_types HO575.out BK581.out (by decide)) (fun _ hk => hk.2) (.slice A580_0 t582.length c580_0)) (fun _ hk => hk.2) (.int .i64 t585)) (fun _ hk => hk.2) (.int .i64 t586)) (fun _ hk => ⟨hk.1.1, hk.1.2⟩)⟩
  have n2_ : Aside0 (Kd.R (Kd.int .i64) 3 (((w10.setCell ⟨gb581, 0, none⟩ (.slice A580_0 t582.length c580_0)).setCell ⟨gb581, 1, none⟩ (.int .i64 t585)).setCell ⟨gb581, 2, none⟩ (.int .i64 t586)) w.heap.size (fun k_ => some k_ ≠ (v574 : Value).ownBlock ∧ some k_ ≠ (.slice A580_0 t582.length c580_0 : Value).ownBlock) v578 t573) := ⟨by (with_reducible repeat (first | apply Kd.R_alloc | apply Kd.R_drewN | apply Kd.R_drew)); exact Kd.R_mono (Kd.R_far (p := ⟨gb581, 2, none⟩) (Kd.R_far (p := ⟨gb581, 1, none⟩) (Kd.R_far (p := ⟨gb581, 0, none⟩) (Kd.R_types HO579.out BK581.out (by decide)) (fun _ hk => hk.2) (.slice A580_0 t582.length c580_0)) (fun _ hk => hk.2) (.int .i64 t585)) (fun _ hk => hk.2) (.int .i64 t586)) (fun _ hk => ⟨hk.1.1, hk.1.2⟩)⟩
  have n4_ : Aside0 (Kd.R (Kd.int .i64) 3 (((w10.setCell ⟨gb581, 0, none⟩ (.slice A580_0 t582.length c580_0)).setCell ⟨gb581, 1, none⟩ (.int .i64 t585)).setCell ⟨gb581, 2, none⟩ (.int .i64 t586)) w.heap.size (fun k_ => some k_ ≠ (v574 : Value).ownBlock ∧ some k_ ≠ (v578 : Value).ownBlock ∧ True) (.slice A580_0 t582.length c580_0) t582) := ⟨by (with_reducible repeat (first | apply Kd.R_alloc | apply Kd.R_drewN | apply Kd.R_drew)); exact Kd.R_mono (Kd.R_far (p := ⟨gb581, 2, none⟩) (Kd.R_far (p := ⟨gb581, 1, none⟩) (Kd.R_far (p := ⟨gb581, 0, none⟩) (Kd.R_types HO584.out BK581.out (by decide)) (fun _ hk => hk.2) (.slice A580_0 t582.length c580_0)) (fun _ hk => hk.2) (.int .i64 t585)) (fun _ hk => hk.2) (.int .i64 t586)) (fun _ hk => ⟨hk.1.1.1.2, ⟨hk.1.1.2, hk.1.2⟩⟩)⟩
  have n5_ : Aside0 ((((w10.setCell ⟨gb581, 0, none⟩ (.slice A580_0 t582.length c580_0)).setCell ⟨gb581, 1, none⟩ (.int .i64 t585)).setCell ⟨gb581, 2, none⟩ (.int .i64 t586)).heap[gb581]? = some (.cells #[.slice A580_0 t582.length c580_0, .int .i64 t585, .int .i64 t586] 29 (0, 0))) := ⟨by refine zP14 ?_; refine blk_put (cs := #[.slice A580_0 t582.length c580_0, .int .i64 t585, .int .i64 0]) ?_ 2 _ rfl; refine zP14 ?_; refine blk_put (cs := #[.slice A580_0 t582.length c580_0, .int .i64 0, .int .i64 0]) ?_ 1 _ rfl; refine zP14 ?_; refine blk_put (cs := #[.slice none 0 0, .int .i64 0, .int .i64 0]) ?_ 0 _ rfl; refine zP14 ?_; exact BK581.out⟩
  have n6_ : Aside0 (Below w.heap.size w (((w10.setCell ⟨gb581, 0, none⟩ (.slice A580_0 t582.length c580_0)).setCell ⟨gb581, 1, none⟩ (.int .i64 t585)).setCell ⟨gb581, 2, none⟩ (.int .i64 t586))) := ⟨zB14_1⟩
  (try clear HO575)
  (try clear HO577)
  (try clear HO579)
  (try clear HL580_0)
  (try clear HO584)
  (try clear BK581)
  (try clear HB)
  generalize (((w10.setCell ⟨gb581, 0, none⟩ (.slice A580_0 t582.length c580_0)).setCell ⟨gb581, 1, none⟩ (.int .i64 t585)).setCell ⟨gb581, 2, none⟩ (.int .i64 t586)) = w24 at n0_ n2_ n4_ n5_ n6_ ⊢
  have HO575 := n0_
  have HO579 := n2_
  have HO584 := n4_
  have BK581 := n5_
  have HB := n6_
  clear n0_ n2_ n4_ n5_ n6_
  have n0_ := Aside0.mk (Kd.R_drew HO575.out)
  have n2_ := Aside0.mk (Kd.R_drew HO579.out)
  have n4_ := Aside0.mk (Kd.R_drew HO584.out)
  have n5_ := Aside0.mk (blk_drew BK581.out)
  have n6_ := Aside0.mk (below_drew1 HB.out)
  clear HO575 HO579 HO584 BK581 HB
  have HO575 := n0_
  have HO579 := n2_
  have HO584 := n4_
  have BK581 := n5_
  have HB := n6_
  clear n0_ n2_ n4_ n5_ n6_
  obtain ⟨Ao26, co26, eo26⟩ := Kd.R_slice HO575.out
  (first | subst eo26 | (injection eo26 with f1_ f2_ f3_; have f4_ := f1_.symm; have f5_ := f3_.symm; clear f1_ f2_ f3_; subst f4_; subst f5_))
  refine start_ (n := 20) (S := fun w' => w'.cell? ⟨gb581, 0, none⟩ = some (.slice A580_0 t582.length c580_0) ∧ w'.cell? ⟨gb581, 1, none⟩ = some (.int .i64 t585) ∧ w'.cell? ⟨gb581, 2, none⟩ = some (.int .i64 t586)) (ds := []) zq14_0 (by kernel_rfl) rfl rfl ⟨(blk_cell BK581.out 0).trans rfl, (blk_cell BK581.out 1).trans rfl, (blk_cell BK581.out 2).trans rfl⟩ (fun hHeld => ?_); refine with_tabW laws_FnNoLoopEnds.tab5 laws_FnNoLoopEnds.bits5 (fun HT_ HW_ => ?_)
  generalize w24.drew = w25 at HO575 HO579 HO584 BK581 HB hHeld ⊢
  refine pure_ (i := 0) (N := some 19) (v := ?_) (a' := ?_) zq14_1 rfl rfl (any_of HT_.out (by kernel_rfl)) (fun _ _ _ h => h) (Or.inl ⟨by rfl, ?_⟩) ?_ ?_
  rotate_left
  ·intro w'
   go_simp
   with_reducible rfl
  rotate_left
  ·exact zV14
  refine pure_ (i := 1) (N := some 20) (v := ?_) (a' := ?_) zq14_2 rfl rfl (any_of HT_.out (by kernel_rfl)) (fun _ _ _ h => h) (Or.inl ⟨by rfl, ?_⟩) ?_ ?_
  rotate_left
  ·intro w'
   go_simp
   with_reducible rfl
  rotate_left
  ·exact zV14
  refine pure_ (i := 4) (N := some 23) (v := ?_) (a' := ?_) zq14_3 rfl rfl (any_of HT_.out (by kernel_rfl)) (fun _ _ _ h => h) (Or.inl ⟨by rfl, ?_⟩) ?_ ?_
  rotate_left
  ·intro w'
   go_simp
   with_reducible rfl
  rotate_left
  ·exact zV14
  refine pure_ (i := 5) (N := some 24) (v := ?_) (a' := ?_) zq14_4 rfl rfl (any_of HT_.out (by kernel_rfl)) (fun _ _ _ h => h) (Or.inl ⟨by rfl, ?_⟩) ?_ ?_
  rotate_left
  ·intro w'
   go_simp
   with_reducible rfl
  rotate_left
  ·exact zV14
  refine take_ (i := 2) (N := some 21) (v := ?_) (a' := ?_) zq14_5 rfl rfl (take_ofW HT_.out HW_.out (by kernel_rfl)) (fun _ _ _ h => h) (Or.inl ⟨by rfl, ?_⟩) hHeld ?_ ?_
  rotate_left
  ·rintro w' ⟨s0, s1, s2⟩
   go_simp
   with_reducible rfl
  rotate_left
  ·exact zV14
  refine take_ (i := 6) (N := some 25) (v := ?_) (a' := ?_) zq14_6 rfl rfl (take_ofW HT_.out HW_.out (by kernel_rfl)) (fun _ _ _ h => h) (Or.inl ⟨by rfl, ?_⟩) hHeld ?_ ?_
  rotate_left
  ·rintro w' ⟨s0, s1, s2⟩
   go_simp
   with_reducible rfl
  rotate_left
  ·exact zV14
  refine one_ (i := 3) (N := some 22) zq14_7 rfl rfl (one_of HT_.out (by kernel_rfl)) (by decide) (fun K hK => ?_)
  refine goes_ Try.func6 (by kernel_rfl) rfl #[.slice Ao26 t571.length co26, .int .i64 t585] (by rfl) rfl rfl zT14 ?_
  with_reducible refine (impl_LoopsFrom.calls k _ _ t571 t585 t587 _ ?side1 ?side2 A14.out).mono ?_
  (case side1 => exact zC14 (Kd.R_reads' HO575.out).2.2)
  (case side2 => exact (Kd.R_reads' HO575.out).2.1)
  rintro e w27 ⟨rfl, hb⟩
  refine ⟨_, rfl, ?_⟩
  have n0_ := Aside0.mk (Kd.R_below (zR14 HO575.out) hb)
  have n2_ := Aside0.mk (Kd.R_below (zR14 HO579.out) hb)
  have n4_ := Aside0.mk (Kd.R_below (zR14 HO584.out) hb)
  have n5_ := Aside0.mk (zb14 BK581.out hb)
  have n6_ := Aside0.mk (below_step (zB14_1) hb)
  clear HO575 HO579 HO584 BK581 HB
  have HO575 := n0_
  have HO579 := n2_
  have HO584 := n4_
  have BK581 := n5_
  have HB := n6_
  clear n0_ n2_ n4_ n5_ n6_
  (try clear hb)
  (try clear hb2)
  (try clear hk)
  (try clear hi)
  refine hK.out _ _ ⟨(blk_cell BK581.out 0).trans rfl, (blk_cell BK581.out 1).trans rfl, (blk_cell BK581.out 2).trans rfl⟩ (fun hHeld => ?_)
  clear hK K
  refine norm_ (a' := ?_) ?_ ?_
  rotate_left
  ·show Act.put _ (some 22) _ = _
   simp only [Act.put, List.setIfInBounds_toArray, List.set_cons_zero, List.set_cons_succ, i64_w, i32_w]
   rfl
  refine one_ (i := 7) (N := some 26) zq14_8 rfl rfl (one_of HT_.out (by kernel_rfl)) (by decide) (fun K hK => ?_)
  refine goes_ Try.func7 (by kernel_rfl) rfl #[.slice Ao26 t571.length co26, .int .i64 t585] (by rfl) rfl rfl zT14 ?_
  with_reducible refine (spec_LoopsFrom.calls k _ _ t571 t585 t588 _ ?side1 ?side2 A15.out).mono ?_
  (case side1 => exact zC14 (Kd.R_reads' HO575.out).2.2)
  (case side2 => exact (Kd.R_reads' HO575.out).2.1)
  rintro e w28 ⟨rfl, hb⟩
  refine ⟨_, rfl, ?_⟩
  have n0_ := Aside0.mk (Kd.R_below (zR14 HO575.out) hb)
  have n2_ := Aside0.mk (Kd.R_below (zR14 HO579.out) hb)
  have n4_ := Aside0.mk (Kd.R_below (zR14 HO584.out) hb)
  have n5_ := Aside0.mk (zb14 BK581.out hb)
  have n6_ := Aside0.mk (below_step (zB14_1) hb)
  clear HO575 HO579 HO584 BK581 HB
  have HO575 := n0_
  have HO579 := n2_
  have HO584 := n4_
  have BK581 := n5_
  have HB := n6_
  clear n0_ n2_ n4_ n5_ n6_
  (try clear hb)
  (try clear hb2)
  (try clear hk)
  (try clear hi)
  refine hK.out _ _ ⟨(blk_cell BK581.out 0).trans rfl, (blk_cell BK581.out 1).trans rfl, (blk_cell BK581.out 2).trans rfl⟩ (fun hHeld => ?_)
  clear hK K
  refine norm_ (a' := ?_) ?_ ?_
  rotate_left
  ·show Act.put _ (some 26) _ = _
   simp only [Act.put, List.setIfInBounds_toArray, List.set_cons_zero, List.set_cons_succ, i64_w, i32_w]
   rfl
  refine pure_ (i := 8) (N := some 27) (v := ?_) (a' := ?_) zq14_9 rfl rfl (any_of HT_.out (by kernel_rfl)) (fun _ _ _ h => h) (Or.inl ⟨by rfl, ?_⟩) ?_ ?_
  rotate_left
  ·intro w'
   go_simp
   with_reducible rfl
  rotate_left
  ·exact zV14
  refine pure_ (i := 9) (N := some 28) (v := ?_) (a' := ?_) zq14_10 rfl rfl (any_of HT_.out (by kernel_rfl)) (fun _ _ _ h => h) (Or.inl ⟨by rfl, ?_⟩) ?_ ?_
  rotate_left
  ·intro w'
   go_simp
   with_reducible rfl
  rotate_left
  ·exact zV14
  refine pure_ (i := 10) (N := some 29) (v := ?_) (a' := ?_) zq14_11 rfl rfl (any_of HT_.out (by kernel_rfl)) (fun _ _ _ h => h) (Or.inl ⟨by rfl, ?_⟩) ?_ ?_
  rotate_left
  ·intro w'
   go_simp
   with_reducible rfl
  rotate_left
  ·exact zV14
  refine pure_ (i := 11) (N := some 30) (v := ?_) (a' := ?_) zq14_12 rfl rfl (any_of HT_.out (by kernel_rfl)) (fun _ _ _ h => h) (Or.inl ⟨by rfl, ?_⟩) ?_ ?_
  rotate_left
  ·intro w'
   go_simp
   with_reducible rfl
  rotate_left
  ·exact zV14
  refine pure_ (i := 14) (N := some 33) (v := ?_) (a' := ?_) #[true, true, true, true, true, true, true, true, true, true, true, true, false, false, true, false, false, false, false, false] rfl rfl (any_of HT_.out (by kernel_rfl)) (fun _ _ _ h => h) (Or.inl ⟨by rfl, ?_⟩) ?_ ?_
  rotate_left
  ·intro w'
   go_simp
   with_reducible rfl
  rotate_left
  ·exact zV14
  refine pure_ (i := 15) (N := some 34) (v := ?_) (a' := ?_) #[true, true, true, true, true, true, true, true, true, true, true, true, false, false, true, true, false, false, false, false] rfl rfl (any_of HT_.out (by kernel_rfl)) (fun _ _ _ h => h) (Or.inl ⟨by rfl, ?_⟩) ?_ ?_
  rotate_left
  ·intro w'
   go_simp
   with_reducible rfl
  rotate_left
  ·exact zV14
  refine take_ (i := 12) (N := some 31) (v := ?_) (a' := ?_) #[true, true, true, true, true, true, true, true, true, true, true, true, true, false, true, true, false, false, false, false] rfl rfl (take_ofW HT_.out HW_.out (by kernel_rfl)) (fun _ _ _ h => h) (Or.inl ⟨by rfl, ?_⟩) hHeld ?_ ?_
  rotate_left
  ·rintro w' ⟨s0, s1, s2⟩
   go_simp
   with_reducible rfl
  rotate_left
  ·exact zV14
  refine take_ (i := 16) (N := some 35) (v := ?_) (a' := ?_) #[true, true, true, true, true, true, true, true, true, true, true, true, true, false, true, true, true, false, false, false] rfl rfl (take_ofW HT_.out HW_.out (by kernel_rfl)) (fun _ _ _ h => h) (Or.inl ⟨by rfl, ?_⟩) hHeld ?_ ?_
  rotate_left
  ·rintro w' ⟨s0, s1, s2⟩
   go_simp
   with_reducible rfl
  rotate_left
  ·exact zV14
  refine one_ (i := 13) (N := some 32) zq14_13 rfl rfl (one_of HT_.out (by kernel_rfl)) (by decide) (fun K hK => ?_)
  refine goes_ Try.func8 (by kernel_rfl) rfl #[.slice Ao26 t571.length co26, .int .i64 t585] (by rfl) rfl rfl zT14 ?_
  with_reducible refine (impl_WritesFrom.calls k _ _ t571 t585 t589 _ ?side1 ?side2 A22.out).mono ?_
  (case side1 => exact zC14 (Kd.R_reads' HO575.out).2.2)
  (case side2 => exact (Kd.R_reads' HO575.out).2.1)
  rintro e w29 ⟨rfl, hb⟩
  refine ⟨_, rfl, ?_⟩
  have n0_ := Aside0.mk (Kd.R_below (zR14 HO575.out) hb)
  have n2_ := Aside0.mk (Kd.R_below (zR14 HO579.out) hb)
  have n4_ := Aside0.mk (Kd.R_below (zR14 HO584.out) hb)
  have n5_ := Aside0.mk (zb14 BK581.out hb)
  have n6_ := Aside0.mk (below_step (zB14_1) hb)
  clear HO575 HO579 HO584 BK581 HB
  have HO575 := n0_
  have HO579 := n2_
  have HO584 := n4_
  have BK581 := n5_
  have HB := n6_
  clear n0_ n2_ n4_ n5_ n6_
  (try clear hb)
  (try clear hb2)
  (try clear hk)
  (try clear hi)
  refine hK.out _ _ ⟨(blk_cell BK581.out 0).trans rfl, (blk_cell BK581.out 1).trans rfl, (blk_cell BK581.out 2).trans rfl⟩ (fun hHeld => ?_)
  clear hK K
  refine norm_ (a' := ?_) ?_ ?_
  rotate_left
  ·show Act.put _ (some 32) _ = _
   simp only [Act.put, List.setIfInBounds_toArray, List.set_cons_zero, List.set_cons_succ, i64_w, i32_w]
   rfl
  refine one_ (i := 17) (N := some 36) zq14_14 rfl rfl (one_of HT_.out (by kernel_rfl)) (by decide) (fun K hK => ?_)
  refine goes_ Try.func9 (by kernel_rfl) rfl #[.slice Ao26 t571.length co26, .int .i64 t585] (by rfl) rfl rfl zT14 ?_
  with_reducible refine (spec_WritesFrom.calls k _ _ t571 t585 t590 _ ?side1 ?side2 A23.out).mono ?_
  (case side1 => exact zC14 (Kd.R_reads' HO575.out).2.2)
  (case side2 => exact (Kd.R_reads' HO575.out).2.1)
  rintro e w30 ⟨rfl, hb⟩
  refine ⟨_, rfl, ?_⟩
  have n0_ := Aside0.mk (Kd.R_below (zR14 HO575.out) hb)
  have n2_ := Aside0.mk (Kd.R_below (zR14 HO579.out) hb)
  have n4_ := Aside0.mk (Kd.R_below (zR14 HO584.out) hb)
  have n5_ := Aside0.mk (zb14 BK581.out hb)
  have n6_ := Aside0.mk (below_step (zB14_1) hb)
  clear HO575 HO579 HO584 BK581 HB
  have HO575 := n0_
  have HO579 := n2_
  have HO584 := n4_
  have BK581 := n5_
  have HB := n6_
  clear n0_ n2_ n4_ n5_ n6_
  (try clear hb)
  (try clear hb2)
  (try clear hk)
  (try clear hi)
  refine hK.out _ _ ⟨(blk_cell BK581.out 0).trans rfl, (blk_cell BK581.out 1).trans rfl, (blk_cell BK581.out 2).trans rfl⟩ (fun hHeld => ?_)
  clear hK K
  refine norm_ (a' := ?_) ?_ ?_
  rotate_left
  ·show Act.put _ (some 36) _ = _
   simp only [Act.put, List.setIfInBounds_toArray, List.set_cons_zero, List.set_cons_succ, i64_w, i32_w]
   rfl
  refine pure_ (i := 18) (N := some 37) (v := ?_) (a' := ?_) zq14_15 rfl rfl (any_of HT_.out (by kernel_rfl)) (fun _ _ _ h => h) (Or.inl ⟨by rfl, ?_⟩) ?_ ?_
  rotate_left
  ·intro w'
   go_simp
   with_reducible rfl
  rotate_left
  ·exact zV14
  refine pure_ (i := 19) (N := some 38) (v := ?_) (a' := ?_) zq14_16 rfl rfl (any_of HT_.out (by kernel_rfl)) (fun _ _ _ h => h) (Or.inl ⟨by rfl, ?_⟩) ?_ ?_
  rotate_left
  ·intro w'
   go_simp
   with_reducible rfl
  rotate_left
  ·exact zV14
  refine done_ (done_of HT_.out (by kernel_rfl)) ?_
  try go_wp2
  go_meet
  case rel => exact ⟨_, ((t589 != t590)), (by first | rfl | (simp; done) | (simp [*]; done)), H', ⟨by first | omega | exact Nat.le_refl _⟩, ⟨by (with_reducible repeat (first | apply Kd.R_alloc | apply Kd.R_drewN | apply Kd.R_drew)); exact Kd.R_mono HO575.out (fun _ hk => hk.2)⟩, ⟨by (with_reducible repeat (first | apply Kd.R_alloc | apply Kd.R_drewN | apply Kd.R_drew)); exact Kd.R_mono HO584.out (fun _ hk => hk.1)⟩, ⟨zK14 BK581.out⟩, ⟨zB14_1⟩⟩
 case rest =>
  clear HC7
  try clear c1
  try clear p2
  try clear c5
  try clear c6
  try clear c7
  try clear c8
  try clear c9
  try clear c16
  try clear c16b0
  try clear c16b1
  try clear c16b2
  obtain ⟨kq, x38_6, rfl, HA, HJ6, HO_3, HO_582000, BK581, HB⟩ := hcut
  cases kq with
  | zero => exact absurd HA.out (by simp [laws_FnNoLoopEnds.j0])
  | succ kj6 =>
   have H := HA.out
   clear HA
   simp only [laws_FnNoLoopEnds.j0] at H
   by_cases c31 : x38_6 = true
   ·subst c31
    have H1 : (some false) = some r := by rw [if_pos rfl] at H; exact H
    clear H
    have H := H1
    clear H1
    obtain rfl := Option.some.inj H
    go_wp2
    go_ret
    exact ⟨zE14, zB14_1⟩
   replace c31 := Bool.eq_false_iff.mpr c31
   subst c31
   have H1 : ((impl_LoopsFrom.f kj6 t571 t585).bind fun t591 => (if t591 = true then (laws_FnNoLoopEnds.j1 kj6 t571 true t582 t585 t586) else ((impl_WritesFrom.f kj6 t571 t585).bind fun t592 => (laws_FnNoLoopEnds.j1 kj6 t571 t592 t582 t585 t586)))) = some r := by rw [if_neg (show ¬ (false = true) by decide)] at H; exact H
   clear H
   have H := H1
   clear H1
   have HC32 := Aside0.mk H
   clear H
   go_upto_region 7 with (fail)
   go_cut [48] (fun v48 wc => ∃ (kq : Nat) (x48_31 : Bool), v48 = .bool x48_31 ∧ Aside0 (laws_FnNoLoopEnds.j1 kq t571 x48_31 t582 t585 t586 = some r) ∧ Aside0 (kq ≤ kj6) ∧ Aside0 (Kd.R (Kd.int .i64) 3 wc w.heap.size (fun k_ => some k_ ≠ ((.slice A580_0 t582.length c580_0) : Value).ownBlock) v574 t571) ∧ Aside0 (Kd.R (Kd.int .i64) 3 wc w.heap.size (fun k_ => some k_ ≠ (v574 : Value).ownBlock) (.slice A580_0 t582.length c580_0) t582) ∧ Aside0 (wc.heap[gb581]? = some (.cells #[(.slice A580_0 t582.length c580_0), .int .i64 t585, .int .i64 t586] 29 (0, 0))) ∧ Aside0 (Below w.heap.size w wc))
   case first =>
    have H := HC32.out
    clear HC32
    replace H := Option.bind_eq_some_iff.mp H
    obtain ⟨t591, A330, H⟩ := H
    replace H : (if t591 = true then (laws_FnNoLoopEnds.j1 kj6 t571 true t582 t585 t586) else ((impl_WritesFrom.f kj6 t571 t585).bind fun t592 => (laws_FnNoLoopEnds.j1 kj6 t571 t592 t582 t585 t586))) = some r := H
    have A33 := Aside0.mk A330
    clear A330
    by_cases c34 : t591 = true
    ·subst c34
     have H1 : (laws_FnNoLoopEnds.j1 kj6 t571 true t582 t585 t586) = some r := by rw [if_pos rfl] at H; exact H
     clear H
     have H := H1
     clear H1
     have H' := Aside0.mk H
     clear H
     obtain ⟨hcz35_0, hcz35_1, hcz35_2, hfz35_0, hfz35_1, hfz35_2⟩ := zc14_3 (w := wc) BK581.out
     obtain ⟨Ao36, co36, eo36⟩ := Kd.R_slice HO_3.out
     subst eo36
     go_wp2_with (first | ((with_reducible refine gate_callee (f := 6) rfl ?_); refine goesL_ (some 42) rfl rfl Try.func6 (by kernel_rfl) rfl #[.slice Ao36 t571.length co36, .int .i64 t585] rfl zT14 ?_; (with_reducible refine (impl_LoopsFrom.calls kj6 _ _ t571 t585 true _ ?side1 ?side2 A33.out).mono ?_); (case side1 => exact zC14 (Kd.R_reads' HO_3.out).2.2); (case side2 => exact (Kd.R_reads' HO_3.out).2.1); rintro e w37 ⟨rfl, hb⟩; refine ⟨_, rfl, ?_⟩; have n0_ := Aside0.mk (Kd.R_below (zR14 HO_3.out) hb); have n1_ := Aside0.mk (Kd.R_below (zR14 HO_582000.out) hb); have n2_ := Aside0.mk (zb14 BK581.out hb); have n3_ := Aside0.mk (below_step (zB14_1) hb); clear HO_3; clear HO_582000; clear BK581; clear HB; have HO_3 := n0_; have HO_582000 := n1_; have BK581 := n2_; have HB := n3_; clear n0_ n1_ n2_ n3_; (try clear hb); (try clear hb2); (try clear hk); (try clear hi)))
     go_meet
     case rel => exact ⟨_, (true), (by first | rfl | (simp; done) | (simp [*]; done)), H', ⟨by have := HJ6.out; first | omega | exact Nat.le_refl _⟩, ⟨zR14 HO_3.out⟩, ⟨zR14 HO_582000.out⟩, ⟨zK14 BK581.out⟩, ⟨zB14_1⟩⟩
    replace c34 := Bool.eq_false_iff.mpr c34
    subst c34
    have H1 : ((impl_WritesFrom.f kj6 t571 t585).bind fun t592 => (laws_FnNoLoopEnds.j1 kj6 t571 t592 t582 t585 t586)) = some r := by rw [if_neg (show ¬ (false = true) by decide)] at H; exact H
    clear H
    have H := H1
    clear H1
    replace H := Option.bind_eq_some_iff.mp H
    obtain ⟨t592, A380, H⟩ := H
    replace H : (laws_FnNoLoopEnds.j1 kj6 t571 t592 t582 t585 t586) = some r := H
    have A38 := Aside0.mk A380
    clear A380
    have H' := Aside0.mk H
    clear H
    obtain ⟨hcz39_0, hcz39_1, hcz39_2, hfz39_0, hfz39_1, hfz39_2⟩ := zc14_3 (w := wc) BK581.out
    obtain ⟨Ao40, co40, eo40⟩ := Kd.R_slice HO_3.out
    subst eo40
    go_wp2_with (first | ((with_reducible refine gate_callee (f := 6) rfl ?_); refine goesL_ (some 42) rfl rfl Try.func6 (by kernel_rfl) rfl #[.slice Ao40 t571.length co40, .int .i64 t585] rfl zT14 ?_; (with_reducible refine (impl_LoopsFrom.calls kj6 _ _ t571 t585 false _ ?side1 ?side2 A33.out).mono ?_); (case side1 => exact zC14 (Kd.R_reads' HO_3.out).2.2); (case side2 => exact (Kd.R_reads' HO_3.out).2.1); rintro e w41 ⟨rfl, hb⟩; refine ⟨_, rfl, ?_⟩; have n0_ := Aside0.mk (Kd.R_below (zR14 HO_3.out) hb); have n1_ := Aside0.mk (Kd.R_below (zR14 HO_582000.out) hb); have n2_ := Aside0.mk (zb14 BK581.out hb); have n3_ := Aside0.mk (below_step (zB14_1) hb); clear HO_3; clear HO_582000; clear BK581; clear HB; have HO_3 := n0_; have HO_582000 := n1_; have BK581 := n2_; have HB := n3_; clear n0_ n1_ n2_ n3_; (try clear hb); (try clear hb2); (try clear hk); (try clear hi); obtain ⟨hcz42_0, hcz42_1, hcz42_2, hfz42_0, hfz42_1, hfz42_2⟩ := zc14_3 (w := w41) BK581.out) | (go_at_call 8; (with_reducible refine (impl_WritesFrom.calls kj6 _ _ t571 t585 t592 _ ?side1 ?side2 A38.out).mono ?_); (case side1 => exact zC14 (Kd.R_reads' HO_3.out).2.2); (case side2 => exact (Kd.R_reads' HO_3.out).2.1); rintro e w43 ⟨rfl, hb⟩; have n0_ := Aside0.mk (Kd.R_below (zR14 HO_3.out) hb); have n1_ := Aside0.mk (Kd.R_below (zR14 HO_582000.out) hb); have n2_ := Aside0.mk (zb14 BK581.out hb); have n3_ := Aside0.mk (below_step (zB14_1) hb); clear HO_3; clear HO_582000; clear BK581; clear HB; have HO_3 := n0_; have HO_582000 := n1_; have BK581 := n2_; have HB := n3_; clear n0_ n1_ n2_ n3_; (try clear hb); (try clear hb2); (try clear hk); (try clear hi)))
    go_meet
    case rel => exact ⟨_, (t592), (by first | rfl | (simp; done) | (simp [*]; done)), H', ⟨by have := HJ6.out; first | omega | exact Nat.le_refl _⟩, ⟨zR14 HO_3.out⟩, ⟨zR14 HO_582000.out⟩, ⟨zK14 BK581.out⟩, ⟨zB14_1⟩⟩
   case rest =>
    clear HC32
    try clear c1
    try clear p2
    try clear c3
    try clear c5
    try clear c6
    try clear c7
    try clear c8
    try clear c9
    try clear c16
    try clear c16b0
    try clear c16b1
    try clear c16b2
    try clear c31
    try clear c34
    try clear hcz35_0
    try clear hcz35_1
    try clear hcz35_2
    try clear hcz39_0
    try clear hcz39_1
    try clear hcz39_2
    try clear hcz42_0
    try clear hcz42_1
    try clear hcz42_2
    try clear hfz35_0
    try clear hfz35_1
    try clear hfz35_2
    try clear hfz39_0
    try clear hfz39_1
    try clear hfz39_2
    try clear hfz42_0
    try clear hfz42_1
    try clear hfz42_2
    try clear p2
    obtain ⟨kq, x48_31, rfl, HA, HJ31, HO_3, HO_582000, BK581, HB⟩ := hcut
    cases kq with
    | zero => exact absurd HA.out (by simp [laws_FnNoLoopEnds.j1])
    | succ kj31 =>
     have H := HA.out
     clear HA
     simp only [laws_FnNoLoopEnds.j1] at H
     by_cases c44 : x48_31 = true
     ·subst c44
      have H1 : (some true) = some r := by rw [if_pos rfl] at H; exact H
      clear H
      have H := H1
      clear H1
      obtain rfl := Option.some.inj H
      go_wp2
      go_ret
      exact ⟨zE14, zB14_1⟩
     replace c44 := Bool.eq_false_iff.mpr c44
     subst c44
     have H1 : (laws_FnNoLoopEnds.l0 kj31 t571 0 t582 t585 t586) = some r := by rw [if_neg (show ¬ (false = true) by decide)] at H; exact H
     clear H
     have H := H1
     clear H1
     have H' := Aside0.mk H
     clear H
     go_wp2
     go_loopg [7] kj31 (fun kq v7 w' => ∃ (x7_3 : Int) (x582000_3 : List Int) (x582001_3 : Int) (x582002_3 : Int) (u582000 : Value), v7 = .int .i64 x7_3 ∧ Aside0 (laws_FnNoLoopEnds.l0 kq t571 x7_3 x582000_3 x582001_3 x582002_3 = some r) ∧ Aside0 (kq ≤ kj31) ∧ Aside0 (Kd.R (Kd.int .i64) 3 w' w.heap.size (fun k_ => some k_ ≠ (u582000 : Value).ownBlock) v574 t571) ∧ Aside0 (Kd.R (Kd.int .i64) 3 w' w.heap.size (fun k_ => some k_ ≠ (v574 : Value).ownBlock) u582000 x582000_3) ∧ Aside0 (w'.heap[gb581]? = some (.cells #[u582000, .int .i64 x582001_3, .int .i64 x582002_3] 29 (0, 0))) ∧ Aside0 (Below w.heap.size w w'))
     case atStart => exact ⟨(0), (t582), (t585), (t586), (.slice A580_0 t582.length c580_0), (by first | rfl | (simp; done) | (simp [*]; done)), H', ⟨Nat.le_refl _⟩, ⟨zR14 HO_3.out⟩, ⟨zR14 HO_582000.out⟩, ⟨zK14 BK581.out⟩, ⟨zB14_1⟩⟩
     case round =>
      clear H'
      try clear c1
      try clear p2
      try clear c3
      try clear c4
      try clear c5
      try clear c6
      try clear c7
      try clear c8
      try clear c9
      try clear c16
      try clear c16b0
      try clear c16b1
      try clear c16b2
      try clear c31
      try clear c34
      try clear c44
      try clear hcz35_0
      try clear hcz35_1
      try clear hcz35_2
      try clear hcz39_0
      try clear hcz39_1
      try clear hcz39_2
      try clear hcz42_0
      try clear hcz42_1
      try clear hcz42_2
      try clear hfz35_0
      try clear hfz35_1
      try clear hfz35_2
      try clear hfz39_0
      try clear hfz39_1
      try clear hfz39_2
      try clear hfz42_0
      try clear hfz42_1
      try clear hfz42_2
      try clear p2
      obtain ⟨x7_3, x582000_3, x582001_3, x582002_3, u582000, rfl, HA, HK3, HO_3, HO_582000, BK581, HB⟩ := hrel
      cases gk with
      | zero => exact absurd HA.out (by simp [laws_FnNoLoopEnds.l0])
      | succ k3 =>
       have H := HA.out
       clear HA
       simp only [laws_FnNoLoopEnds.l0] at H
       by_cases c45 : x7_3 ≤ 24
       rotate_left
       ·rw [if_neg c45] at H
        have c45b0 : decide (x7_3 ≤ 24) = false := decide_eq_false c45
        clear c45
        obtain rfl := Option.some.inj H
        obtain ⟨hcz53_0, hcz53_1, hcz53_2, hfz53_0, hfz53_1, hfz53_2⟩ := zc14_3 (w := wr) BK581.out
        go_wp2
        go_ret
        exact ⟨zE14, zB14_1⟩
       rw [if_pos c45] at H
       have c45b0 : decide (x7_3 ≤ 24) = true := decide_eq_true c45
       clear c45
       replace H := Option.bind_eq_some_iff.mp H
       obtain ⟨⟨t593, t596, t599, t600⟩, A460, H⟩ := H
       replace H : (laws_FnNoLoopEnds.l0 k3 t571 (wrap64 (x7_3 + 1)) t596 t599 t600) = some r := H
       have A46 := Aside0.mk A460
       clear A460
       have H' := Aside0.mk H
       clear H
       obtain ⟨hcz47_0, hcz47_1, hcz47_2, hfz47_0, hfz47_1, hfz47_2⟩ := zc14_3 (w := wr) BK581.out
       obtain ⟨Ao48, co48, eo48⟩ := Kd.R_slice HO_3.out
       subst eo48
       obtain ⟨Ao49, co49, eo49⟩ := Kd.R_slice HO_582000.out
       subst eo49
       go_wp2_with (first | ((with_reducible refine gate_callee (f := 10) rfl ?_); refine goesL_ (some 56) rfl rfl Try.func10 (by kernel_rfl) rfl #[.slice Ao48 t571.length co48, .agg #[.slice Ao49 x582000_3.length co49, .int .i64 x582001_3, .int .i64 x582002_3]] rfl zT14 ?_; (with_reducible refine (impl_FlatStep.calls k3 _ _ t571 _ _ x582000_3 x582001_3 x582002_3 t593 t596 t599 t600 _ ?side1 ?side2 ?side3 ?side4 A46.out).mono ?_); (case side1 => exact zC14 (Kd.R_reads' HO_3.out).2.2); (case side2 => exact (Kd.R_reads' HO_3.out).2.1); (case side3 => exact zC14 (Kd.R_reads' HO_582000.out).2.2); (case side4 => exact (Kd.R_reads' HO_582000.out).2.1); rintro e w50 ⟨v594, v597, rfl, ho0, ho1, hb⟩; refine ⟨_, rfl, ?_⟩; have n0_ := Aside0.mk (Kd.R_mono (Kd.R_told (Kd.R_told (Kd.R_old (zR14 HO_3.out) hb) (Kd.R_base ho0)) (Kd.R_base ho1)) (fun _ h_ => h_.1)); have n1_ := Aside0.mk (Kd.R_mono (Kd.R_told (Kd.R_told (Kd.R_old (zR14 HO_582000.out) hb) (Kd.R_base ho0)) (Kd.R_base ho1)) (fun _ h_ => h_.1)); have n2_ := Aside0.mk (Kd.R_lower (Kd.R_new' (Kd.R_new' ho0 (Kd.R_lt (zR14 HO_3.out))) (Kd.R_lt (zR14 HO_582000.out))) (below_size (zB14_1))); have n3_ := Aside0.mk (Kd.R_lower (Kd.R_new' (Kd.R_new' ho1 (Kd.R_lt (zR14 HO_3.out))) (Kd.R_lt (zR14 HO_582000.out))) (below_size (zB14_1))); have n4_ := Aside0.mk (zb14 BK581.out hb); have n5_ := Aside0.mk (below_step (zB14_1) hb); clear HO_3; clear HO_582000; clear BK581; clear HB; have HO_3 := n0_; have HO_582000 := n1_; have HO595 := n2_; have HO598 := n3_; have BK581 := n4_; have HB := n5_; clear n0_ n1_ n2_ n3_ n4_ n5_; (try clear hb); (try clear hb2); (try clear hk); (try clear hi); (try clear ho0); (try clear ho1); obtain ⟨Ao51, co51, eo51⟩ := Kd.R_slice HO598.out; subst eo51; obtain ⟨hcz52_0, hcz52_1, hcz52_2, hfz52_0, hfz52_1, hfz52_2⟩ := zc14_3 (w := w50) BK581.out))
       go_roundg k3
       case measure => have := HJ6.out; have := HJ31.out; have := HK3.out; omega
       case rel => exact ⟨(wrap64 (x7_3 + 1)), (t596), (t599), (t600), (.slice Ao51 t596.length co51), (by first | rfl | (simp; done) | (simp [*]; done)), H', ⟨by have := HJ6.out; have := HJ31.out; have := HK3.out; omega⟩, ⟨by (with_reducible repeat (first | apply Kd.R_alloc | apply Kd.R_drewN | apply Kd.R_drew)); exact Kd.R_mono (Kd.R_far (p := ⟨gb581, 2, none⟩) (Kd.R_far (p := ⟨gb581, 1, none⟩) (Kd.R_far (p := ⟨gb581, 0, none⟩) (Kd.R_types HO_3.out BK581.out (by decide)) (fun _ hk => hk.2) (.slice Ao51 t596.length co51)) (fun _ hk => hk.2) (.int .i64 t599)) (fun _ hk => hk.2) (.int .i64 t600)) (fun _ hk => hk.1.2)⟩, ⟨by (with_reducible repeat (first | apply Kd.R_alloc | apply Kd.R_drewN | apply Kd.R_drew)); exact Kd.R_mono (Kd.R_far (p := ⟨gb581, 2, none⟩) (Kd.R_far (p := ⟨gb581, 1, none⟩) (Kd.R_far (p := ⟨gb581, 0, none⟩) (Kd.R_types HO598.out BK581.out (by decide)) (fun _ hk => hk.2) (.slice Ao51 t596.length co51)) (fun _ hk => hk.2) (.int .i64 t599)) (fun _ hk => hk.2) (.int .i64 t600)) (fun _ hk => hk.1.1.2)⟩, ⟨by refine zP14 ?_; refine blk_put (cs := #[.slice Ao51 t596.length co51, .int .i64 t599, .int .i64 x582002_3]) ?_ 2 _ rfl; refine zP14 ?_; refine blk_put (cs := #[.slice Ao51 t596.length co51, .int .i64 x582001_3, .int .i64 x582002_3]) ?_ 1 _ rfl; refine zP14 ?_; refine blk_put (cs := #[.slice Ao49 x582000_3.length co49, .int .i64 x582001_3, .int .i64 x582002_3]) ?_ 0 _ rfl; refine zP14 ?_; exact BK581.out⟩, ⟨zB14_1⟩⟩

/-- THE ONE PURE STATEMENT of laws_FnNoLoopEnds: yours. -/
def laws_FnNoLoopEnds.Pure : Prop := ∀ (l0 : List Int), l0.length ≤ maxLen → l0.length * 1 ≤ 140737488351232 → (∀ x ∈ l0, (Lit.int .u8 x).wf = true) → ∃ k, laws_FnNoLoopEnds.f k l0 = some true
theorem laws_FnNoLoopEnds.walk (P : laws_FnNoLoopEnds.Pure) (a0 : Option Addr) (len0 cap0 : Nat) (z0 : List Int) (w : World) (w0 : (a0 = none ∧ len0 = 0 ∧ cap0 = 0 ∧ z0 = []) ∨ ∃ x, a0 = some x ∧ len0 ≤ cap0 ∧ cap0 ≤ maxLen ∧ z0.length = cap0 ∧ (∀ i, i < z0.length → w.cell? (x.add i) = some (.int .u8 (z0.getD i 0))) ∧ ∀ n ∈ z0, (Lit.int .u8 n).wf = true) (y0 : len0 * 1 ≤ 140737488351232) :
  Calls Try.prog 3 #[.slice a0 len0 cap0] w fun e w' => e = .returned (.bool true) ∧ Below w.heap.size w w' := by
 obtain ⟨l0, rfl, hr0, hm0, hw0, hc0⟩ := ReadsInt.ofRowC w0
 obtain ⟨k, h⟩ := P l0 hm0 y0 hw0
 refine (laws_FnNoLoopEnds.calls k _ _ l0 true w (Kd.C_of_reads (d := (0 : Int)) (h1 := fun _ => rfl) hr0) hc0 h).mono ?_
 rintro e w' ⟨rfl, hd⟩
 exact ⟨rfl, hd⟩

end Go.Proofs.Ytehgffgpgoopiaa.PFnNoLoopEnds
