-- made by wip/tools/myprint.py out of the seat's translation
import Derived.Test.YtmfhfnpinmlloaaPFnGoesx0
import Derived.Test.YtmfhfnpinmlloaaPFnGoesx2
import Derived.Test.YtmfhfnpinmlloaaPFnGoesx5
import Derived.Test.YtmfhfnpinmlloaaPFnGoesx7
import Derived.Test.YtmfhfnpinmlloaaPFnGoesx9
import Derived.Test.YtmfhfnpinmlloaaPFnGoesx10
namespace Go.Proofs.Ytmfhfnpinmlloaa.PFnGoes
open Go.RowKit Go.Proofs.YtmfhfnpinmlloaaW.PrintWords Go.Proofs.YtmfhfnpinmlloaaW.PrintLast Go.Proofs.YtmfhfnpinmlloaaW.PrintMore
attribute [local go_sem] max2_int min2_int max_two min_two max_three min_three max_four min_four   -- for this text's walks alone
set_option linter.unusedVariables false
set_option linter.unusedSimpArgs false
theorem zc11_3 {w : World} {g : Nat} {a0 a1 a2 : Value} {t : TypeId} (h : w.heap[g]? = some (.cells #[a0, a1, a2] t (0, 0))) : w.cell? ⟨g, 0, none⟩ = some a0 ∧ w.cell? ⟨g, 1, none⟩ = some a1 ∧ w.cell? ⟨g, 2, none⟩ = some a2 ∧ w.frozen? ⟨g, 0, none⟩ = false ∧ w.frozen? ⟨g, 1, none⟩ = false ∧ w.frozen? ⟨g, 2, none⟩ = false := ⟨(blk_cell h 0).trans rfl, (blk_cell h 1).trans rfl, (blk_cell h 2).trans rfl, blk_frozen h 0, blk_frozen h 1, blk_frozen h 2⟩
theorem zR11 {p q : Prop} (x : q) (h : q → p := by intro h; (with_reducible repeat (first | apply Kd.R_alloc | apply Kd.R_drewN | apply Kd.R_drew)); exact h) : p := h x
theorem zS11 {p q : Prop} (x : q) (h : q → p := by intro h; (with_reducible repeat (first | apply Kd.S_alloc | apply Kd.S_drewN | apply Kd.S_drew)); exact h) : p := h x
theorem zK11 {p q : Prop} (x : q) (h : q → p := by intro h; (with_reducible repeat (first | refine blk_drewN ?_ _ | refine blk_drew ?_ | refine blk_alloc ?_ _)); exact h) : p := h x
theorem zA11 {p : Prop} [Decidable p] (h : decide p = true := by first | (with_reducible assumption) | assumption) : p := of_decide_eq_true h
theorem zT11 {p : Prop} (h : p := by (try simp only [List.map_toArray, List.map_cons, List.map_nil]); first | done | rfl | (simp only [List.length_drop, List.length_take]; rfl)) : p := h
theorem zC11 {p q : Prop} (x : q) (h : q → p := by intro h; repeat (first | exact h | (with_reducible refine Kd.C_alloc ?_ _) | (with_reducible refine Kd.C_drewN ?_ _) | (with_reducible refine Kd.C_drew ?_))) : p := h x
theorem zb11 {W w w1 : World} {g : Nat} {o : Obj} (x : W.heap[g]? = some o) (hb : Below w.heap.size w w1) (h : W.heap[g]? = some o → w.heap[g]? = some o := by intro h; (with_reducible repeat (first | refine blk_drewN ?_ _ | refine blk_drew ?_ | refine blk_alloc ?_ _)); exact h) : w1.heap[g]? = some o := blk_below (h x) hb
theorem zn11 {W w : World} {g g' : Nat} {o : Obj} (x : W.heap[g]? = some o) (hg : g' = w.heap.size) (h : W.heap[g]? = some o → w.heap[g]? = some o := by intro h; (with_reducible repeat (first | refine blk_drewN ?_ _ | refine blk_drew ?_ | refine blk_alloc ?_ _)); exact h) : g ≠ g' := by rw [hg]; exact Nat.ne_of_lt (blk_lt (h x))
theorem zm11 {W w : World} {g g' : Nat} {o : Obj} (x : W.heap[g]? = some o) (hg : g' = w.heap.size) (h : W.heap[g]? = some o → w.heap[g]? = some o := by intro h; (with_reducible repeat (first | refine blk_drewN ?_ _ | refine blk_drew ?_ | refine blk_alloc ?_ _)); exact h) : g' ≠ g := by rw [hg]; exact Nat.ne_of_gt (blk_lt (h x))
theorem zP11 {p q : Prop} (x : q) (h : q → p := by intro h; (with_reducible repeat (first | refine blk_drewN ?_ _ | refine blk_drew ?_ | refine blk_alloc ?_ _)); exact h) : p := h x
theorem zE11 {p : Prop} (h : p := by first | rfl | (simp [errW_none, errW_some] <;> rfl) | (simp [*, errW_none, errW_some] <;> rfl)) : p := h
theorem zB11_0 {p : Prop} (h : p := by repeat (first | (with_reducible first | exact HB.out | apply below_alloc | apply pw_below_drewN | apply below_drew1) | exact HB.out)) : p := h
theorem zB11_1 {p : Prop} (h : p := by repeat (first | (with_reducible first | exact HB.out | apply below_alloc | apply pw_below_drewN | apply below_drew1 | refine below_set ?_ GE477.out) | exact HB.out)) : p := h
theorem zB11_2 {p : Prop} (h : p := by repeat (first | (with_reducible first | exact HB.out | apply below_alloc | apply pw_below_drewN | apply below_drew1 | refine below_set ?_ GE477.out | refine below_set ?_ GE494.out) | exact HB.out)) : p := h
theorem zB11_3 {p : Prop} (h : p := by repeat (first | (with_reducible first | exact HB.out | apply below_alloc | apply pw_below_drewN | apply below_drew1 | refine below_set ?_ GE477.out | refine below_set ?_ GE508.out) | exact HB.out)) : p := h

/-! ### laws_FnGoes: function 3 -/
theorem copyHart_eq {a t : List Int} {b c u v : Int} (h : impl_copyHart.f a b c = some (t, u, v)) : t = a ∧ u = b ∧ v = c := by
 unfold impl_copyHart.f at h
 obtain ⟨t1, h1, h⟩ := Option.bind_eq_some_iff.mp h
 unfold slices_Clone_int_int.f at h1
 split at h1
 ·cases h1; cases h; exact ⟨rfl, rfl, rfl⟩
 ·cases h1
theorem R_two {α β : Type} {d : Kd α} {d' : Kd β} {e e' b : Nat} {W : World} {ok ok' : Nat → Prop} {u v : Value} {xs : List α} {ys : List β} (hE : d.E = []) (h : Kd.R d e W b ok v xs) (hu : Kd.R d' e' W b ok' u ys) (hne : ∀ k, ok' k → some k ≠ v.ownBlock) : Kd.R d e W b (fun k => ok k ∧ some k ≠ u.ownBlock) v xs :=
 Kd.R_mono (Kd.R_tight hE h) (fun k hk => ⟨h.1 k hk.symm, fun he => hne k (hu.1 k he.symm) hk⟩)
mutual
def laws_FnGoes.l0 : Nat → List Int → List Int → List (S29) → List Int → Int → List Int → Int → Int → Option (Bool)
 | 0, _, _, _, _, _, _, _, _ => none
 | k + 1, x0, x3, x4, x5, x7, x478000, x478001, x478002 => if x7 < 30 then ((impl_NextOf.f k x3 x478001).bind fun t483 => ((impl_FlatStep.f k x3 x478000 x478001 x478002).bind fun bt486 => (if bt486.2.2.2 = 0 then (if x478002 = 0 then ((laws_within.f k t483 bt486.2.2.1).bind fun t495 => (if t495 = true then (laws_FnGoes.l0 k x0 bt486.1 x4 x5 (wrap64 (x7 + 1)) bt486.2.1 bt486.2.2.1 bt486.2.2.2) else (some false))) else (laws_FnGoes.l0 k x0 bt486.1 x4 x5 (wrap64 (x7 + 1)) bt486.2.1 bt486.2.2.1 bt486.2.2.2)) else (laws_FnGoes.l0 k x0 bt486.1 x4 x5 (wrap64 (x7 + 1)) bt486.2.1 bt486.2.2.1 bt486.2.2.2)))) else (if 0 < (x4.length : Int) then ((spec_DrawSteps.f k x0).bind fun bt497 => ((impl_WritesFrom.f k bt497.1 ((rd_T29 x4 0).f1)).bind fun t506 => (if t506 = true then (laws_FnGoes.j1 k x4 ((rd_T29 x4 0).f1) bt497.1 true) else (laws_FnGoes.j1 k x4 ((rd_T29 x4 0).f1) bt497.1 (decide ((x5.length : Int) > 200)))))) else (none))
def laws_FnGoes.j1 : Nat → List (S29) → Int → List Int → Bool → Option (Bool)
 | 0, _, _, _, _ => none
 | k + 1, x4, x11, x12, x77 => if x77 = true then (some true) else (if 0 < (x4.length : Int) then ((impl_copyHart.f ((rd_T29 x4 0).f0) ((rd_T29 x4 0).f1) ((rd_T29 x4 0).f2)).bind fun bt509 => ((impl_ReachOf.f k x12 x11).bind fun t514 => (laws_FnGoes.l1 k x12 t514 0 bt509.1 bt509.2.1 bt509.2.2))) else (none))
def laws_FnGoes.l1 : Nat → List Int → List Int → Int → List Int → Int → Int → Option (Bool)
 | 0, _, _, _, _, _, _ => none
 | k + 1, x12, x16, x17, x509000, x509001, x509002 => if x17 < 30 then ((laws_within.f k x16 x509001).bind fun t517 => (if t517 = true then ((impl_FlatStep.f k x12 x509000 x509001 x509002).bind fun bt518 => (laws_FnGoes.l1 k x12 x16 (wrap64 (x17 + 1)) bt518.2.1 bt518.2.2.1 bt518.2.2.2)) else (some false))) else (some true)
end
def laws_FnGoes.f (k : Nat) (l0 : List Int) : Option (Bool) := (laws_big.f l0).bind fun t466 => (if t466 = true then (some true) else ((spec_DrawSteps.f k l0).bind fun bt467 => (if 0 < (bt467.2.1.length : Int) then ((impl_copyHart.f ((rd_T29 bt467.2.1 0).f0) ((rd_T29 bt467.2.1 0).f1) ((rd_T29 bt467.2.1 0).f2)).bind fun bt478 => (laws_FnGoes.l0 k l0 bt467.1 bt467.2.1 bt467.2.2 0 bt478.1 bt478.2.1 bt478.2.2)) else (none))))
theorem laws_FnGoes.mono_l : ∀ k, (∀ y0 y1 y2 y3 y4 y5 y6 y7, LeO (laws_FnGoes.l0 k y0 y1 y2 y3 y4 y5 y6 y7) (laws_FnGoes.l0 (k + 1) y0 y1 y2 y3 y4 y5 y6 y7)) ∧ (∀ y0 y1 y2 y3, LeO (laws_FnGoes.j1 k y0 y1 y2 y3) (laws_FnGoes.j1 (k + 1) y0 y1 y2 y3)) ∧ (∀ y0 y1 y2 y3 y4 y5, LeO (laws_FnGoes.l1 k y0 y1 y2 y3 y4 y5) (laws_FnGoes.l1 (k + 1) y0 y1 y2 y3 y4 y5))
 | 0 => ⟨fun _ _ _ _ _ _ _ _ r h => by simp [laws_FnGoes.l0] at h, fun _ _ _ _ r h => by simp [laws_FnGoes.j1] at h, fun _ _ _ _ _ _ r h => by simp [laws_FnGoes.l1] at h⟩
 | k + 1 => by
  obtain ⟨ih0, ih1, ih2⟩ := laws_FnGoes.mono_l k
  refine ⟨?_, ?_, ?_⟩
  ·intro y0 y1 y2 y3 y4 y5 y6 y7
   unfold laws_FnGoes.l0
   repeat' first
   | (with_reducible exact ih0 _ _ _ _ _ _ _ _)
   | (with_reducible exact ih1 _ _ _ _)
   | (with_reducible exact ih2 _ _ _ _ _ _)
   | (with_reducible exact impl_FlatStep.mono _ _ _ _ _)
   | (with_reducible exact impl_NextOf.mono _ _ _)
   | (with_reducible exact impl_ReachOf.mono _ _ _)
   | (with_reducible exact impl_WritesFrom.mono _ _ _)
   | (with_reducible exact laws_within.mono _ _ _)
   | (with_reducible exact spec_DrawSteps.mono _ _)
   | (with_reducible exact LeO.refl _)
   | (with_reducible exact LeO.none _)
   | (with_reducible refine LeO.ite ?_ ?_)
   | (with_reducible refine LeO.bind ?_ (fun _ => ?_))
   | exact ih0 _ _ _ _ _ _ _ _
   | exact ih1 _ _ _ _
   | exact ih2 _ _ _ _ _ _
   | exact impl_FlatStep.mono _ _ _ _ _
   | exact impl_NextOf.mono _ _ _
   | exact impl_ReachOf.mono _ _ _
   | exact impl_WritesFrom.mono _ _ _
   | exact laws_within.mono _ _ _
   | exact spec_DrawSteps.mono _ _
   | exact LeO.none _
   | refine LeO.ite ?_ ?_
   | refine LeO.bind ?_ (fun _ => ?_)
  ·intro y0 y1 y2 y3
   unfold laws_FnGoes.j1
   repeat' first
   | (with_reducible exact ih0 _ _ _ _ _ _ _ _)
   | (with_reducible exact ih1 _ _ _ _)
   | (with_reducible exact ih2 _ _ _ _ _ _)
   | (with_reducible exact impl_FlatStep.mono _ _ _ _ _)
   | (with_reducible exact impl_NextOf.mono _ _ _)
   | (with_reducible exact impl_ReachOf.mono _ _ _)
   | (with_reducible exact impl_WritesFrom.mono _ _ _)
   | (with_reducible exact laws_within.mono _ _ _)
   | (with_reducible exact spec_DrawSteps.mono _ _)
   | (with_reducible exact LeO.refl _)
   | (with_reducible exact LeO.none _)
   | (with_reducible refine LeO.ite ?_ ?_)
   | (with_reducible refine LeO.bind ?_ (fun _ => ?_))
   | exact ih0 _ _ _ _ _ _ _ _
   | exact ih1 _ _ _ _
   | exact ih2 _ _ _ _ _ _
   | exact impl_FlatStep.mono _ _ _ _ _
   | exact impl_NextOf.mono _ _ _
   | exact impl_ReachOf.mono _ _ _
   | exact impl_WritesFrom.mono _ _ _
   | exact laws_within.mono _ _ _
   | exact spec_DrawSteps.mono _ _
   | exact LeO.none _
   | refine LeO.ite ?_ ?_
   | refine LeO.bind ?_ (fun _ => ?_)
  ·intro y0 y1 y2 y3 y4 y5
   unfold laws_FnGoes.l1
   repeat' first
   | (with_reducible exact ih0 _ _ _ _ _ _ _ _)
   | (with_reducible exact ih1 _ _ _ _)
   | (with_reducible exact ih2 _ _ _ _ _ _)
   | (with_reducible exact impl_FlatStep.mono _ _ _ _ _)
   | (with_reducible exact impl_NextOf.mono _ _ _)
   | (with_reducible exact impl_ReachOf.mono _ _ _)
   | (with_reducible exact impl_WritesFrom.mono _ _ _)
   | (with_reducible exact laws_within.mono _ _ _)
   | (with_reducible exact spec_DrawSteps.mono _ _)
   | (with_reducible exact LeO.refl _)
   | (with_reducible exact LeO.none _)
   | (with_reducible refine LeO.ite ?_ ?_)
   | (with_reducible refine LeO.bind ?_ (fun _ => ?_))
   | exact ih0 _ _ _ _ _ _ _ _
   | exact ih1 _ _ _ _
   | exact ih2 _ _ _ _ _ _
   | exact impl_FlatStep.mono _ _ _ _ _
   | exact impl_NextOf.mono _ _ _
   | exact impl_ReachOf.mono _ _ _
   | exact impl_WritesFrom.mono _ _ _
   | exact laws_within.mono _ _ _
   | exact spec_DrawSteps.mono _ _
   | exact LeO.none _
   | refine LeO.ite ?_ ?_
   | refine LeO.bind ?_ (fun _ => ?_)
theorem laws_FnGoes.mono : ∀ a0 k, LeO (laws_FnGoes.f k a0) (laws_FnGoes.f (k + 1) a0) := by
 intro a0 k
 obtain ⟨ih0, ih1, ih2⟩ := laws_FnGoes.mono_l k
 unfold laws_FnGoes.f
 repeat' first
   | (with_reducible exact ih0 _ _ _ _ _ _ _ _)
   | (with_reducible exact ih1 _ _ _ _)
   | (with_reducible exact ih2 _ _ _ _ _ _)
   | (with_reducible exact impl_FlatStep.mono _ _ _ _ _)
   | (with_reducible exact impl_NextOf.mono _ _ _)
   | (with_reducible exact impl_ReachOf.mono _ _ _)
   | (with_reducible exact impl_WritesFrom.mono _ _ _)
   | (with_reducible exact laws_within.mono _ _ _)
   | (with_reducible exact spec_DrawSteps.mono _ _)
   | (with_reducible exact LeO.refl _)
   | (with_reducible exact LeO.none _)
   | (with_reducible refine LeO.ite ?_ ?_)
   | (with_reducible refine LeO.bind ?_ (fun _ => ?_))
   | exact ih0 _ _ _ _ _ _ _ _
   | exact ih1 _ _ _ _
   | exact ih2 _ _ _ _ _ _
   | exact impl_FlatStep.mono _ _ _ _ _
   | exact impl_NextOf.mono _ _ _
   | exact impl_ReachOf.mono _ _ _
   | exact impl_WritesFrom.mono _ _ _
   | exact laws_within.mono _ _ _
   | exact spec_DrawSteps.mono _ _
   | exact LeO.none _
   | refine LeO.ite ?_ ?_
   | refine LeO.bind ?_ (fun _ => ?_)
set_option maxHeartbeats 8000000 in
set_option maxRecDepth 100000 in
theorem laws_FnGoes.calls (k : Nat) (A0 : Option Addr) (c0 : Nat) (l0 : List Int) (r : Bool) (w : World) (hr0 : Kd.C (Kd.int .u8) w A0 l0.length l0) (hc0 : l0.length ≤ c0) (h : laws_FnGoes.f k l0 = some r) :
  Calls Try.prog 3 #[.slice A0 l0.length c0] w fun e w' => e = .returned (.bool r) ∧ Below w.heap.size w w' := by
 have hu29 := Try.underlying29
 have HR0 := Aside0.mk hr0
 have HC0 := Aside0.mk hc0
 clear hr0 hc0
 have HB := Aside0.mk (Below.refl w.heap.size w)
 have H : ((laws_big.f l0).bind fun t466 => (if t466 = true then (some true) else ((spec_DrawSteps.f k l0).bind fun bt467 => (if 0 < (bt467.2.1.length : Int) then ((impl_copyHart.f ((rd_T29 bt467.2.1 0).f0) ((rd_T29 bt467.2.1 0).f1) ((rd_T29 bt467.2.1 0).f2)).bind fun bt478 => (laws_FnGoes.l0 k l0 bt467.1 bt467.2.1 bt467.2.2 0 bt478.1 bt478.2.1 bt478.2.2)) else (none))))) = some r := h
 clear h
 replace H := Option.bind_eq_some_iff.mp H
 obtain ⟨t466, A20, H⟩ := H
 replace H : (if t466 = true then (some true) else ((spec_DrawSteps.f k l0).bind fun bt467 => (if 0 < (bt467.2.1.length : Int) then ((impl_copyHart.f ((rd_T29 bt467.2.1 0).f0) ((rd_T29 bt467.2.1 0).f1) ((rd_T29 bt467.2.1 0).f2)).bind fun bt478 => (laws_FnGoes.l0 k l0 bt467.1 bt467.2.1 bt467.2.2 0 bt478.1 bt478.2.1 bt478.2.2)) else (none)))) = some r := H
 have A2 := Aside0.mk A20
 clear A20
 by_cases c3 : t466 = true
 ·subst c3
  have H1 : (some true) = some r := by rw [if_pos rfl] at H; exact H
  clear H
  have H := H1
  clear H1
  obtain rfl := Option.some.inj H
  go_enter Try.func3, Try.ntmps3
  go_wp2_with (first | ((with_reducible refine gate_callee (f := 4) rfl ?_); refine goesL_ (some 19) rfl rfl Try.func4 (by kernel_rfl) rfl #[.slice A0 l0.length c0] rfl zT11 ?_; (with_reducible refine (laws_big.calls _ _ l0 true _ ?side1 ?side2 A2.out).mono ?_); (case side1 => exact zC11 HR0.out); (case side2 => exact HC0.out); rintro e w' ⟨rfl, ⟨nd, rfl⟩⟩; refine ⟨_, rfl, ?_⟩))
  go_ret
  exact ⟨zE11, zB11_0⟩
 replace c3 := Bool.eq_false_iff.mpr c3
 subst c3
 have H1 : ((spec_DrawSteps.f k l0).bind fun bt467 => (if 0 < (bt467.2.1.length : Int) then ((impl_copyHart.f ((rd_T29 bt467.2.1 0).f0) ((rd_T29 bt467.2.1 0).f1) ((rd_T29 bt467.2.1 0).f2)).bind fun bt478 => (laws_FnGoes.l0 k l0 bt467.1 bt467.2.1 bt467.2.2 0 bt478.1 bt478.2.1 bt478.2.2)) else (none))) = some r := by rw [if_neg (show ¬ (false = true) by decide)] at H; exact H
 clear H
 have H := H1
 clear H1
 replace H := Option.bind_eq_some_iff.mp H
 obtain ⟨⟨t467, t468, t469⟩, A40, H⟩ := H
 replace H : (if 0 < (t468.length : Int) then ((impl_copyHart.f ((rd_T29 t468 0).f0) ((rd_T29 t468 0).f1) ((rd_T29 t468 0).f2)).bind fun bt478 => (laws_FnGoes.l0 k l0 t467 t468 t469 0 bt478.1 bt478.2.1 bt478.2.2)) else (none)) = some r := H
 have A4 := Aside0.mk A40
 clear A40
 by_cases c5 : 0 < (t468.length : Int)
 rotate_left
 ·rw [if_neg c5] at H
  exact absurd H (by simp)
 rw [if_pos c5] at H
 have c5b0 : decide (0 < (t468.length : Int)) = true := decide_eq_true c5
 have c5b1 : decide (0 < t468.length) = true := decide_eq_true (by omega)
 clear c5
 replace H := Option.bind_eq_some_iff.mp H
 obtain ⟨⟨t478, t481, t482⟩, A60, H⟩ := H
 replace H : (laws_FnGoes.l0 k l0 t467 t468 t469 0 t478 t481 t482) = some r := H
 have A6 := Aside0.mk A60
 clear A60
 have H' := Aside0.mk H
 clear H
 go_enter Try.func3, Try.ntmps3
 go_wp2_with (first | ((with_reducible refine gate_callee (f := 4) rfl ?_); refine goesL_ (some 19) rfl rfl Try.func4 (by kernel_rfl) rfl #[.slice A0 l0.length c0] rfl zT11 ?_; (with_reducible refine (laws_big.calls _ _ l0 false _ ?side1 ?side2 A2.out).mono ?_); (case side1 => exact zC11 HR0.out); (case side2 => exact HC0.out); rintro e w' ⟨rfl, ⟨nd, rfl⟩⟩; refine ⟨_, rfl, ?_⟩) | ((with_reducible refine gate_callee (f := 5) rfl ?_); refine goesL_ (some 22) rfl rfl Try.func5 (by kernel_rfl) rfl #[.slice A0 l0.length c0] rfl zT11 ?_; (with_reducible refine (spec_DrawSteps.calls k _ _ l0 t467 t468 t469 _ ?side1 ?side2 A4.out).mono ?_); (case side1 => exact zC11 HR0.out); (case side2 => exact HC0.out); rintro e w7 ⟨v470, v472, v474, rfl, ho0, ho1, ho2, hb⟩; refine ⟨_, rfl, ?_⟩; have n0_ := Aside0.mk (Kd.R_lower ho0 (below_size (zB11_0))); have n1_ := Aside0.mk (Kd.S_lower ho1 (below_size (zB11_0))); have n2_ := Aside0.mk (Kd.R_lower ho2 (below_size (zB11_0))); have n3_ := Aside0.mk (below_step (zB11_0) hb); clear HB; have HO471 := n0_; have HO473 := n1_; have HO475 := n2_; have HB := n3_; clear n0_ n1_ n2_ n3_; (try clear hb); (try clear hb2); (try clear hk); (try clear hi); (try clear ho0); (try clear ho1); (try clear ho2); obtain ⟨Ao8, co8, eo8⟩ := Kd.S_slice HO473.out; subst eo8; have p476 : 0 ≤ (0 : Int) := (by omega); have q476 : 0 < (t468.length : Int) := zA11; obtain ⟨ad476, A476_0, c476_0, e476, hx476_0, hx476_1, hx476_2, hl476_0, hi476_0⟩ := at_T29 (Kd.S_reads' HO473.out).2.2 0 p476 q476; cases e476; obtain ⟨ce476, hce476, hMe476, hcc476⟩ := Kd.S_get HO473.out z29 0 p476 (by first | exact q476 | exact zA11 | (have e_ := (Kd.S_reads' HO473.out).1; omega)); obtain ⟨ve476_0, rfl, ge476_0⟩ := k29_openM hMe476; have hv476_0 := hcc476 0 _ rfl; rw [Nat.add_zero] at hv476_0; replace hv476_0 := Option.some.inj (hv476_0.symm.trans hx476_0); rw [hv476_0] at ge476_0; have HL476_0 := Aside0.mk (show Kd.R (Kd.int .i64) 3 _ _ _ _ ((rd_T29 t468 0).f0) from ge476_0); clear hv476_0 ge476_0; clear hcc476 hce476; have qi476 : (0 < t468.length) = True := eq_true (by omega); (try rw [show ((0 : Int)).toNat = 0 from rfl] at hx476_0); (try rw [show 0 * 3 = 0 from rfl] at hx476_0); (try rw [Addr.add_zero'] at hx476_0); (try rw [show ((0 : Int)).toNat = 0 from rfl] at hx476_1); (try rw [show 0 * 3 = 0 from rfl] at hx476_1); (try rw [Addr.add_zero'] at hx476_1); (try rw [show ((0 : Int)).toNat = 0 from rfl] at hx476_2); (try rw [show 0 * 3 = 0 from rfl] at hx476_2); (try rw [Addr.add_zero'] at hx476_2); have HR476_0 := Aside0.mk hi476_0; have HC476_0 := Aside0.mk hl476_0; clear hi476_0 hl476_0; replace p476 := eq_true p476; replace q476 := eq_true q476; obtain ⟨e0_, e1_, e2_⟩ := copyHart_eq A6.out; rw [← e0_] at hx476_0 HL476_0; rw [← e1_] at hx476_1; rw [← e2_] at hx476_2; clear e0_ e1_ e2_) | ((with_reducible refine gate_dst (N := 6) rfl ?_); (try (refine gate_guard (by rfl) ?_; dsimp only)); refine box_event ?hg (N := 6) ?hd (cs := #[.slice none 0 0, .int .i64 0, .int .i64 0]) (t := 29) ?hr ?_; (case hd => rfl); (case hg => rfl); (case hr => first | (go_simp; done) | (go_simp; rfl)); intro gb477 hg w9 hbox hb; have n0_ := Aside0.mk (Kd.R_below (zR11 HO471.out) hb); have n1_ := Aside0.mk (Kd.S_below (Kd.S_elderB (zS11 HO473.out) gb477 (Nat.le_of_eq hg.symm)) hb); have n2_ := Aside0.mk (Kd.R_below (zR11 HO475.out) hb); have n3_ := Aside0.mk (Kd.R_below (zR11 HL476_0.out) hb); have n4_ := Aside0.mk (Kd.C_below (by repeat (first | (with_reducible exact HR476_0.out) | (with_reducible refine Kd.C_alloc ?_ _) | (with_reducible refine Kd.C_drewN ?_ _) | (with_reducible refine Kd.C_drew ?_) | exact HR476_0.out)) hb); have n5_ := Aside0.mk (below_step (zB11_0) hb); have n6_ := Aside0.mk (hbox); have n7_ := Aside0.mk ((by rw [hg]; exact (below_size (zB11_0)) : w.heap.size ≤ gb477)); have n8_ := Aside0.mk ((by rw [hg]; exact (below_size (zB11_0)) : w.heap.size ≤ gb477)); clear HO471; clear HO473; clear HO475; clear HL476_0; clear HR476_0; clear HB; have HO471 := n0_; have HO473 := n1_; have HO475 := n2_; have HL476_0 := n3_; have HR476_0 := n4_; have HB := n5_; have BK477 := n6_; have GW477 := n7_; have GE477 := n8_; clear n0_ n1_ n2_ n3_ n4_ n5_ n6_ n7_ n8_; clear hb hbox hg; have HO480 := Aside0.mk (show Kd.R (Kd.int .i64) 3 w9 w.heap.size (fun k_ => ((True ∧ some k_ ≠ (v470 : Value).ownBlock) ∧ some k_ ≠ (v474 : Value).ownBlock) ∧ True) (.slice A476_0 t478.length c476_0) t478 from Kd.R_mono HL476_0.out (fun _ hk => ⟨⟨⟨trivial, hk.1.1⟩, hk.1.2⟩, trivial⟩)); have m0_ := Aside0.mk (R_two rfl HO471.out HO480.out (fun _ hk => hk.1.1.2)); clear HO471; have HO471 := m0_; clear m0_; have m0_ := Aside0.mk (R_two rfl HO475.out HO480.out (fun _ hk => hk.1.2)); clear HO475; have HO475 := m0_; clear m0_; have m0_ := Aside0.mk (Kd.S_apart_nil HO473.out); clear HO473; have HO473 := m0_; clear m0_; clear HL476_0; obtain ⟨hcz12_0, hcz12_1, hcz12_2, hfz12_0, hfz12_1, hfz12_2⟩ := zc11_3 (w := w9) BK477.out))
 go_loopg [3, 7] k (fun kq v3 v7 w' => ∃ (x3_1 : List Int) (x7_1 : Int) (x478000_1 : List Int) (x478001_1 : Int) (x478002_1 : Int) (u478000 : Value) (z_ : Value), v7 = .int .i64 x7_1 ∧ Aside0 (laws_FnGoes.l0 kq l0 x3_1 t468 t469 x7_1 x478000_1 x478001_1 x478002_1 = some r) ∧ Aside0 (kq ≤ k) ∧ Aside0 (Kd.R (Kd.int .i64) 3 w' w.heap.size (fun k_ => some k_ ≠ (v474 : Value).ownBlock ∧ some k_ ≠ (u478000 : Value).ownBlock) v3 x3_1) ∧ Aside0 (Kd.S k29 29 w' w.heap.size (fun k_ => some k_ ≠ (v3 : Value).ownBlock ∧ some k_ ≠ (v474 : Value).ownBlock ∧ some k_ ≠ (z_ : Value).ownBlock ∧ k_ ≠ gb477) (.slice (some ad476) t468.length co8) t468) ∧ Aside0 (Kd.R (Kd.int .i64) 3 w' w.heap.size (fun k_ => some k_ ≠ (v3 : Value).ownBlock ∧ some k_ ≠ (u478000 : Value).ownBlock) v474 t469) ∧ Aside0 (Kd.R (Kd.int .i64) 3 w' w.heap.size (fun k_ => some k_ ≠ (v3 : Value).ownBlock ∧ some k_ ≠ (v474 : Value).ownBlock) u478000 x478000_1) ∧ Aside0 (w'.heap[gb477]? = some (.cells #[u478000, .int .i64 x478001_1, .int .i64 x478002_1] 29 (0, 0))) ∧ Aside0 (Below w.heap.size w w'))
 case atStart => exact ⟨(t467), (0), (t478), (t481), (t482), (.slice A476_0 t478.length c476_0), (.slice none 0 0), (by first | rfl | (simp; done) | (simp [*]; done)), H', ⟨Nat.le_refl _⟩, ⟨by (with_reducible repeat (first | apply Kd.R_alloc | apply Kd.R_drewN | apply Kd.R_drew)); exact Kd.R_mono (Kd.R_far (p := ⟨gb477, 2, none⟩) (Kd.R_far (p := ⟨gb477, 1, none⟩) (Kd.R_far (p := ⟨gb477, 0, none⟩) (Kd.R_types HO471.out BK477.out (by decide)) (fun _ hk => hk.2) (.slice A476_0 t478.length c476_0)) (fun _ hk => hk.2) (.int .i64 t481)) (fun _ hk => hk.2) (.int .i64 t482)) (fun _ hk => ⟨hk.1.1, hk.1.2⟩)⟩, ⟨by (with_reducible repeat (first | apply Kd.S_alloc | apply Kd.S_drewN | apply Kd.S_drew)); exact Kd.S_mono (Kd.S_far (p := ⟨gb477, 2, none⟩) (Kd.S_far (p := ⟨gb477, 1, none⟩) (Kd.S_far (p := ⟨gb477, 0, none⟩) (Kd.S_mono HO473.out (fun k_ hk => (⟨hk, hk.1.2⟩ : _ ∧ k_ ≠ gb477))) (fun _ hk => hk.2) (.slice A476_0 t478.length c476_0)) (fun _ hk => hk.2) (.int .i64 t481)) (fun _ hk => hk.2) (.int .i64 t482)) (fun _ hk => ⟨hk.1.1.1.1, ⟨hk.1.1.1.2, ⟨hk.1.2, hk.1.1.2⟩⟩⟩)⟩, ⟨by (with_reducible repeat (first | apply Kd.R_alloc | apply Kd.R_drewN | apply Kd.R_drew)); exact Kd.R_mono (Kd.R_far (p := ⟨gb477, 2, none⟩) (Kd.R_far (p := ⟨gb477, 1, none⟩) (Kd.R_far (p := ⟨gb477, 0, none⟩) (Kd.R_types HO475.out BK477.out (by decide)) (fun _ hk => hk.2) (.slice A476_0 t478.length c476_0)) (fun _ hk => hk.2) (.int .i64 t481)) (fun _ hk => hk.2) (.int .i64 t482)) (fun _ hk => ⟨hk.1.1, hk.1.2⟩)⟩, ⟨by (with_reducible repeat (first | apply Kd.R_alloc | apply Kd.R_drewN | apply Kd.R_drew)); exact Kd.R_mono (Kd.R_far (p := ⟨gb477, 2, none⟩) (Kd.R_far (p := ⟨gb477, 1, none⟩) (Kd.R_far (p := ⟨gb477, 0, none⟩) (Kd.R_types HO480.out BK477.out (by decide)) (fun _ hk => hk.2) (.slice A476_0 t478.length c476_0)) (fun _ hk => hk.2) (.int .i64 t481)) (fun _ hk => hk.2) (.int .i64 t482)) (fun _ hk => ⟨hk.1.1.1.2, hk.1.1.2⟩)⟩, ⟨by refine zP11 ?_; refine blk_put (cs := #[.slice A476_0 t478.length c476_0, .int .i64 t481, .int .i64 0]) ?_ 2 _ rfl; refine zP11 ?_; refine blk_put (cs := #[.slice A476_0 t478.length c476_0, .int .i64 0, .int .i64 0]) ?_ 1 _ rfl; refine zP11 ?_; refine blk_put (cs := #[.slice none 0 0, .int .i64 0, .int .i64 0]) ?_ 0 _ rfl; refine zP11 ?_; exact BK477.out⟩, ⟨zB11_1⟩⟩
 case round =>
  clear H'
  try clear c2
  try clear p2
  try clear c3
  try clear c4
  try clear p4
  try clear q4
  try clear hx4
  try clear qi4
  try clear c5
  try clear c5b0
  try clear c5b1
  try clear hcz12_0
  try clear hcz12_1
  try clear hcz12_2
  try clear hfz12_0
  try clear hfz12_1
  try clear hfz12_2
  try clear hx476_0
  try clear hx476_1
  try clear hx476_2
  try clear p476
  try clear q476
  obtain ⟨x3_1, x7_1, x478000_1, x478001_1, x478002_1, u478000, z_, rfl, HA, HK1, HO_3, HO_4, HO_5, HO_478000, BK477, HB⟩ := hrel
  cases gk with
  | zero => exact absurd HA.out (by simp [laws_FnGoes.l0])
  | succ k1 =>
   have H := HA.out
   clear HA
   simp only [laws_FnGoes.l0] at H
   by_cases c13 : x7_1 < 30
   ·rw [if_pos c13] at H
    have c13b0 : decide (x7_1 < 30) = true := decide_eq_true c13
    clear c13
    replace H := Option.bind_eq_some_iff.mp H
    obtain ⟨t483, A140, H⟩ := H
    replace H : ((impl_FlatStep.f k1 x3_1 x478000_1 x478001_1 x478002_1).bind fun bt486 => (if bt486.2.2.2 = 0 then (if x478002_1 = 0 then ((laws_within.f k1 t483 bt486.2.2.1).bind fun t495 => (if t495 = true then (laws_FnGoes.l0 k1 l0 bt486.1 t468 t469 (wrap64 (x7_1 + 1)) bt486.2.1 bt486.2.2.1 bt486.2.2.2) else (some false))) else (laws_FnGoes.l0 k1 l0 bt486.1 t468 t469 (wrap64 (x7_1 + 1)) bt486.2.1 bt486.2.2.1 bt486.2.2.2)) else (laws_FnGoes.l0 k1 l0 bt486.1 t468 t469 (wrap64 (x7_1 + 1)) bt486.2.1 bt486.2.2.1 bt486.2.2.2))) = some r := H
    have A14 := Aside0.mk A140
    clear A140
    replace H := Option.bind_eq_some_iff.mp H
    obtain ⟨⟨t486, t489, t492, t493⟩, A150, H⟩ := H
    replace H : (if t493 = 0 then (if x478002_1 = 0 then ((laws_within.f k1 t483 t492).bind fun t495 => (if t495 = true then (laws_FnGoes.l0 k1 l0 t486 t468 t469 (wrap64 (x7_1 + 1)) t489 t492 t493) else (some false))) else (laws_FnGoes.l0 k1 l0 t486 t468 t469 (wrap64 (x7_1 + 1)) t489 t492 t493)) else (laws_FnGoes.l0 k1 l0 t486 t468 t469 (wrap64 (x7_1 + 1)) t489 t492 t493)) = some r := H
    have A15 := Aside0.mk A150
    clear A150
    by_cases c16 : t493 = 0
    rotate_left
    ·rw [if_neg c16] at H
     have c16b0 : (t493 == 0) = false := beq_eq_false_iff_ne.mpr c16
     have c16b1 : (t493 != 0) = true := bne_iff_ne.mpr c16
     have H' := Aside0.mk H
     clear H
     obtain ⟨hcz55_0, hcz55_1, hcz55_2, hfz55_0, hfz55_1, hfz55_2⟩ := zc11_3 (w := wr) BK477.out
     obtain ⟨Ao56, co56, eo56⟩ := Kd.R_slice HO_3.out
     subst eo56
     go_wp2_with (first | ((with_reducible refine gate_callee (f := 6) rfl ?_); refine goesL_ (some 36) rfl rfl Try.func6 (by kernel_rfl) rfl #[.slice Ao56 x3_1.length co56, .int .i64 x478001_1] rfl zT11 ?_; (with_reducible refine (impl_NextOf.calls k1 _ _ x3_1 x478001_1 t483 _ ?side1 ?side2 A14.out).mono ?_); (case side1 => exact zC11 (Kd.R_reads' HO_3.out).2.2); (case side2 => exact (Kd.R_reads' HO_3.out).2.1); rintro e w57 ⟨v484, rfl, ho0, hb⟩; refine ⟨_, rfl, ?_⟩; have n0_ := Aside0.mk (Kd.R_elder' (zR11 HO_3.out) (Kd.R_base ho0) hb); have n1_ := Aside0.mk (Kd.S_elder' (zS11 HO_4.out) (Kd.R_base ho0) hb); have n2_ := Aside0.mk (Kd.R_elder' (zR11 HO_5.out) (Kd.R_base ho0) hb); have n3_ := Aside0.mk (Kd.R_elder' (zR11 HO_478000.out) (Kd.R_base ho0) hb); have n4_ := Aside0.mk (Kd.R_lower (Kd.R_new' (Kd.R_new' (Kd.R_new' ho0 (Kd.R_lt (zR11 HO_3.out))) (Kd.R_lt (zR11 HO_5.out))) (Kd.R_lt (zR11 HO_478000.out))) (below_size (zB11_1))); have n5_ := Aside0.mk (zb11 BK477.out hb); have n6_ := Aside0.mk (below_step (zB11_1) hb); clear HO_3; clear HO_4; clear HO_5; clear HO_478000; clear BK477; clear HB; have HO_3 := n0_; have HO_4 := n1_; have HO_5 := n2_; have HO_478000 := n3_; have HO485 := n4_; have BK477 := n5_; have HB := n6_; clear n0_ n1_ n2_ n3_ n4_ n5_ n6_; (try clear hb); (try clear hb2); (try clear hk); (try clear hi); (try clear ho0); obtain ⟨hcz58_0, hcz58_1, hcz58_2, hfz58_0, hfz58_1, hfz58_2⟩ := zc11_3 (w := w57) BK477.out; obtain ⟨Ao59, co59, eo59⟩ := Kd.R_slice HO_478000.out; subst eo59) | ((with_reducible refine gate_callee (f := 7) rfl ?_); refine goesL_ (some 40) rfl rfl Try.func7 (by kernel_rfl) rfl #[.slice Ao56 x3_1.length co56, .agg #[.slice Ao59 x478000_1.length co59, .int .i64 x478001_1, .int .i64 x478002_1]] rfl zT11 ?_; (with_reducible refine (impl_FlatStep.calls k1 _ _ x3_1 _ _ x478000_1 x478001_1 x478002_1 t486 t489 t492 t493 _ ?side1 ?side2 ?side3 ?side4 A15.out).mono ?_); (case side1 => exact zC11 (Kd.R_reads' HO_3.out).2.2); (case side2 => exact (Kd.R_reads' HO_3.out).2.1); (case side3 => exact zC11 (Kd.R_reads' HO_478000.out).2.2); (case side4 => exact (Kd.R_reads' HO_478000.out).2.1); rintro e w60 ⟨v487, v490, rfl, ho0, ho1, hb⟩; refine ⟨_, rfl, ?_⟩; have n0_ := Aside0.mk (Kd.R_mono (Kd.R_told (Kd.R_told (Kd.R_old (zR11 HO_3.out) hb) (Kd.R_base ho0)) (Kd.R_base ho1)) (fun _ h_ => h_.1)); have n1_ := Aside0.mk (Kd.S_mono (Kd.S_told (Kd.S_told (Kd.S_old (zS11 HO_4.out) hb) (Kd.R_base ho0)) (Kd.R_base ho1)) (fun _ h_ => h_.1)); have n2_ := Aside0.mk (Kd.R_mono (Kd.R_told (Kd.R_told (Kd.R_old (zR11 HO_5.out) hb) (Kd.R_base ho0)) (Kd.R_base ho1)) (fun _ h_ => h_.1)); have n3_ := Aside0.mk (Kd.R_mono (Kd.R_told (Kd.R_told (Kd.R_old (zR11 HO_478000.out) hb) (Kd.R_base ho0)) (Kd.R_base ho1)) (fun _ h_ => h_.1)); have n4_ := Aside0.mk (Kd.R_mono (Kd.R_told (Kd.R_told (Kd.R_old (zR11 HO485.out) hb) (Kd.R_base ho0)) (Kd.R_base ho1)) (fun _ h_ => h_.1)); have n5_ := Aside0.mk (Kd.R_lower (Kd.R_new' (Kd.R_new' (Kd.R_new' (Kd.R_new' ho0 (Kd.R_lt (zR11 HO_3.out))) (Kd.R_lt (zR11 HO_5.out))) (Kd.R_lt (zR11 HO_478000.out))) (Kd.R_lt (zR11 HO485.out))) (below_size (zB11_1))); have n6_ := Aside0.mk (Kd.R_lower (Kd.R_new' (Kd.R_new' (Kd.R_new' (Kd.R_new' ho1 (Kd.R_lt (zR11 HO_3.out))) (Kd.R_lt (zR11 HO_5.out))) (Kd.R_lt (zR11 HO_478000.out))) (Kd.R_lt (zR11 HO485.out))) (below_size (zB11_1))); have n7_ := Aside0.mk (zb11 BK477.out hb); have n8_ := Aside0.mk (below_step (zB11_1) hb); clear HO_3; clear HO_4; clear HO_5; clear HO_478000; clear HO485; clear BK477; clear HB; have HO_3 := n0_; have HO_4 := n1_; have HO_5 := n2_; have HO_478000 := n3_; have HO485 := n4_; have HO488 := n5_; have HO491 := n6_; have BK477 := n7_; have HB := n8_; clear n0_ n1_ n2_ n3_ n4_ n5_ n6_ n7_ n8_; (try clear hb); (try clear hb2); (try clear hk); (try clear hi); (try clear ho0); (try clear ho1)) | ((with_reducible refine gate_dst (N := 10) rfl ?_); (try (refine gate_guard (by rfl) ?_; dsimp only)); refine box_event ?hg (N := 10) ?hd (cs := #[.slice none 0 0, .int .i64 0, .int .i64 0]) (t := 29) ?hr ?_; (case hd => rfl); (case hg => rfl); (case hr => first | (go_simp; done) | (go_simp; rfl)); intro gb494 hg w61 hbox hb; have n0_ := Aside0.mk (Kd.R_below (zR11 HO_3.out) hb); have n1_ := Aside0.mk (Kd.S_below (Kd.S_elderB (zS11 HO_4.out) gb494 (Nat.le_of_eq hg.symm)) hb); have n2_ := Aside0.mk (Kd.R_below (zR11 HO_5.out) hb); have n3_ := Aside0.mk (Kd.R_below (zR11 HO_478000.out) hb); have n4_ := Aside0.mk (Kd.R_below (zR11 HO485.out) hb); have n5_ := Aside0.mk (Kd.R_below (zR11 HO488.out) hb); have n6_ := Aside0.mk (Kd.R_below (zR11 HO491.out) hb); have n7_ := Aside0.mk (zb11 BK477.out hb); have n8_ := Aside0.mk (below_step (zB11_1) hb); have n9_ := Aside0.mk (hbox); have n10_ := Aside0.mk ((by rw [hg]; exact (below_size (zB11_1)) : w.heap.size ≤ gb494)); have n11_ := Aside0.mk ((by rw [hg]; exact (below_size (zB11_1)) : w.heap.size ≤ gb494)); have n12_ := Aside0.mk ((zn11 BK477.out hg : gb477 ≠ gb494)); have n13_ := Aside0.mk ((zm11 BK477.out hg : gb494 ≠ gb477)); clear HO_3; clear HO_4; clear HO_5; clear HO_478000; clear HO485; clear HO488; clear HO491; clear BK477; clear HB; have HO_3 := n0_; have HO_4 := n1_; have HO_5 := n2_; have HO_478000 := n3_; have HO485 := n4_; have HO488 := n5_; have HO491 := n6_; have BK477 := n7_; have HB := n8_; have BK494 := n9_; have GW494 := n10_; have GE494 := n11_; have NB477_494 := n12_; have NB494_477 := n13_; clear n0_ n1_ n2_ n3_ n4_ n5_ n6_ n7_ n8_ n9_ n10_ n11_ n12_ n13_; clear hb hbox hg; obtain ⟨Ao62, co62, eo62⟩ := Kd.R_slice HO491.out; subst eo62; have hnb63 := NB494_477.out; have hnc63 := NB477_494.out; obtain ⟨hcz64_0, hcz64_1, hcz64_2, hfz64_0, hfz64_1, hfz64_2⟩ := zc11_3 (w := w61) BK494.out; obtain ⟨hcz65_0, hcz65_1, hcz65_2, hfz65_0, hfz65_1, hfz65_2⟩ := zc11_3 (w := w61) BK477.out))
     go_roundg k1
     case measure => have := HK1.out; omega
     case rel => exact ⟨(t486), (wrap64 (x7_1 + 1)), (t489), (t492), (t493), (.slice Ao62 t489.length co62), (.slice Ao62 t489.length co62), (by first | rfl | (simp; done) | (simp [*]; done)), H', ⟨by have := HK1.out; omega⟩, ⟨by (with_reducible repeat (first | apply Kd.R_alloc | apply Kd.R_drewN | apply Kd.R_drew)); exact Kd.R_mono (Kd.R_far (p := ⟨gb477, 2, none⟩) (Kd.R_far (p := ⟨gb477, 1, none⟩) (Kd.R_far (p := ⟨gb477, 0, none⟩) (Kd.R_far (p := ⟨gb494, 2, none⟩) (Kd.R_far (p := ⟨gb494, 1, none⟩) (Kd.R_far (p := ⟨gb494, 0, none⟩) (Kd.R_types (Kd.R_types HO488.out BK494.out (by decide)) BK477.out (by decide)) (fun _ hk => hk.1.2) (.slice Ao62 t489.length co62)) (fun _ hk => hk.1.2) (.int .i64 t492)) (fun _ hk => hk.1.2) (.int .i64 t493)) (fun _ hk => hk.2) (.slice Ao62 t489.length co62)) (fun _ hk => hk.2) (.int .i64 t492)) (fun _ hk => hk.2) (.int .i64 t493)) (fun _ hk => ⟨hk.1.1.1.1.2, hk.1.1.1.1.1.1⟩)⟩, ⟨by (with_reducible repeat (first | apply Kd.S_alloc | apply Kd.S_drewN | apply Kd.S_drew)); exact Kd.S_mono (Kd.S_far (p := ⟨gb477, 2, none⟩) (Kd.S_far (p := ⟨gb477, 1, none⟩) (Kd.S_far (p := ⟨gb477, 0, none⟩) (Kd.S_far (p := ⟨gb494, 2, none⟩) (Kd.S_far (p := ⟨gb494, 1, none⟩) (Kd.S_far (p := ⟨gb494, 0, none⟩) (Kd.S_mono (Kd.S_mono HO_4.out (fun k_ hk => (⟨hk, hk.2⟩ : _ ∧ k_ ≠ gb494))) (fun k_ hk => (⟨hk, hk.1.1.1.1.1.2.2.2⟩ : _ ∧ k_ ≠ gb477))) (fun _ hk => hk.1.2) (.slice Ao62 t489.length co62)) (fun _ hk => hk.1.2) (.int .i64 t492)) (fun _ hk => hk.1.2) (.int .i64 t493)) (fun _ hk => hk.2) (.slice Ao62 t489.length co62)) (fun _ hk => hk.2) (.int .i64 t492)) (fun _ hk => hk.2) (.int .i64 t493)) (fun _ hk => ⟨hk.1.1.1.1.2, ⟨hk.1.1.1.1.1.1.2.1, ⟨hk.1.1.1.2, hk.1.1.1.1.1.1.2.2.2⟩⟩⟩)⟩, ⟨by (with_reducible repeat (first | apply Kd.R_alloc | apply Kd.R_drewN | apply Kd.R_drew)); exact Kd.R_mono (Kd.R_far (p := ⟨gb477, 2, none⟩) (Kd.R_far (p := ⟨gb477, 1, none⟩) (Kd.R_far (p := ⟨gb477, 0, none⟩) (Kd.R_far (p := ⟨gb494, 2, none⟩) (Kd.R_far (p := ⟨gb494, 1, none⟩) (Kd.R_far (p := ⟨gb494, 0, none⟩) (Kd.R_types (Kd.R_types HO_5.out BK494.out (by decide)) BK477.out (by decide)) (fun _ hk => hk.1.2) (.slice Ao62 t489.length co62)) (fun _ hk => hk.1.2) (.int .i64 t492)) (fun _ hk => hk.1.2) (.int .i64 t493)) (fun _ hk => hk.2) (.slice Ao62 t489.length co62)) (fun _ hk => hk.2) (.int .i64 t492)) (fun _ hk => hk.2) (.int .i64 t493)) (fun _ hk => ⟨hk.1.1.1.2, hk.1.1.2⟩)⟩, ⟨by (with_reducible repeat (first | apply Kd.R_alloc | apply Kd.R_drewN | apply Kd.R_drew)); exact Kd.R_mono (Kd.R_far (p := ⟨gb477, 2, none⟩) (Kd.R_far (p := ⟨gb477, 1, none⟩) (Kd.R_far (p := ⟨gb477, 0, none⟩) (Kd.R_far (p := ⟨gb494, 2, none⟩) (Kd.R_far (p := ⟨gb494, 1, none⟩) (Kd.R_far (p := ⟨gb494, 0, none⟩) (Kd.R_types (Kd.R_types HO491.out BK494.out (by decide)) BK477.out (by decide)) (fun _ hk => hk.1.2) (.slice Ao62 t489.length co62)) (fun _ hk => hk.1.2) (.int .i64 t492)) (fun _ hk => hk.1.2) (.int .i64 t493)) (fun _ hk => hk.2) (.slice Ao62 t489.length co62)) (fun _ hk => hk.2) (.int .i64 t492)) (fun _ hk => hk.2) (.int .i64 t493)) (fun _ hk => ⟨hk.1.1.1.1.1.1, hk.1.1.1.1.2⟩)⟩, ⟨by refine zP11 ?_; refine blk_put (cs := #[.slice Ao62 t489.length co62, .int .i64 t492, .int .i64 x478002_1]) ?_ 2 _ rfl; refine zP11 ?_; refine blk_put (cs := #[.slice Ao62 t489.length co62, .int .i64 x478001_1, .int .i64 x478002_1]) ?_ 1 _ rfl; refine zP11 ?_; refine blk_put (cs := #[.slice Ao59 x478000_1.length co59, .int .i64 x478001_1, .int .i64 x478002_1]) ?_ 0 _ rfl; refine zP11 ?_; refine blk_far ?_ NB477_494.out _; refine zP11 ?_; refine blk_far ?_ NB477_494.out _; refine zP11 ?_; refine blk_far ?_ NB477_494.out _; refine zP11 ?_; exact BK477.out⟩, ⟨zB11_2⟩⟩
    rw [if_pos c16] at H
    have c16b0 : (t493 == 0) = true := beq_iff_eq.mpr c16
    have c16b1 : (t493 != 0) = false := bne_eq_false_iff_eq.mpr c16
    clear c16
    by_cases c17 : x478002_1 = 0
    rotate_left
    ·rw [if_neg c17] at H
     have c17b0 : (x478002_1 == 0) = false := beq_eq_false_iff_ne.mpr c17
     have c17b1 : (x478002_1 != 0) = true := bne_iff_ne.mpr c17
     have H' := Aside0.mk H
     clear H
     obtain ⟨hcz44_0, hcz44_1, hcz44_2, hfz44_0, hfz44_1, hfz44_2⟩ := zc11_3 (w := wr) BK477.out
     obtain ⟨Ao45, co45, eo45⟩ := Kd.R_slice HO_3.out
     subst eo45
     go_wp2_with (first | ((with_reducible refine gate_callee (f := 6) rfl ?_); refine goesL_ (some 36) rfl rfl Try.func6 (by kernel_rfl) rfl #[.slice Ao45 x3_1.length co45, .int .i64 x478001_1] rfl zT11 ?_; (with_reducible refine (impl_NextOf.calls k1 _ _ x3_1 x478001_1 t483 _ ?side1 ?side2 A14.out).mono ?_); (case side1 => exact zC11 (Kd.R_reads' HO_3.out).2.2); (case side2 => exact (Kd.R_reads' HO_3.out).2.1); rintro e w46 ⟨v484, rfl, ho0, hb⟩; refine ⟨_, rfl, ?_⟩; have n0_ := Aside0.mk (Kd.R_elder' (zR11 HO_3.out) (Kd.R_base ho0) hb); have n1_ := Aside0.mk (Kd.S_elder' (zS11 HO_4.out) (Kd.R_base ho0) hb); have n2_ := Aside0.mk (Kd.R_elder' (zR11 HO_5.out) (Kd.R_base ho0) hb); have n3_ := Aside0.mk (Kd.R_elder' (zR11 HO_478000.out) (Kd.R_base ho0) hb); have n4_ := Aside0.mk (Kd.R_lower (Kd.R_new' (Kd.R_new' (Kd.R_new' ho0 (Kd.R_lt (zR11 HO_3.out))) (Kd.R_lt (zR11 HO_5.out))) (Kd.R_lt (zR11 HO_478000.out))) (below_size (zB11_1))); have n5_ := Aside0.mk (zb11 BK477.out hb); have n6_ := Aside0.mk (below_step (zB11_1) hb); clear HO_3; clear HO_4; clear HO_5; clear HO_478000; clear BK477; clear HB; have HO_3 := n0_; have HO_4 := n1_; have HO_5 := n2_; have HO_478000 := n3_; have HO485 := n4_; have BK477 := n5_; have HB := n6_; clear n0_ n1_ n2_ n3_ n4_ n5_ n6_; (try clear hb); (try clear hb2); (try clear hk); (try clear hi); (try clear ho0); obtain ⟨hcz47_0, hcz47_1, hcz47_2, hfz47_0, hfz47_1, hfz47_2⟩ := zc11_3 (w := w46) BK477.out; obtain ⟨Ao48, co48, eo48⟩ := Kd.R_slice HO_478000.out; subst eo48) | ((with_reducible refine gate_callee (f := 7) rfl ?_); refine goesL_ (some 40) rfl rfl Try.func7 (by kernel_rfl) rfl #[.slice Ao45 x3_1.length co45, .agg #[.slice Ao48 x478000_1.length co48, .int .i64 x478001_1, .int .i64 x478002_1]] rfl zT11 ?_; (with_reducible refine (impl_FlatStep.calls k1 _ _ x3_1 _ _ x478000_1 x478001_1 x478002_1 t486 t489 t492 t493 _ ?side1 ?side2 ?side3 ?side4 A15.out).mono ?_); (case side1 => exact zC11 (Kd.R_reads' HO_3.out).2.2); (case side2 => exact (Kd.R_reads' HO_3.out).2.1); (case side3 => exact zC11 (Kd.R_reads' HO_478000.out).2.2); (case side4 => exact (Kd.R_reads' HO_478000.out).2.1); rintro e w49 ⟨v487, v490, rfl, ho0, ho1, hb⟩; refine ⟨_, rfl, ?_⟩; have n0_ := Aside0.mk (Kd.R_mono (Kd.R_told (Kd.R_told (Kd.R_old (zR11 HO_3.out) hb) (Kd.R_base ho0)) (Kd.R_base ho1)) (fun _ h_ => h_.1)); have n1_ := Aside0.mk (Kd.S_mono (Kd.S_told (Kd.S_told (Kd.S_old (zS11 HO_4.out) hb) (Kd.R_base ho0)) (Kd.R_base ho1)) (fun _ h_ => h_.1)); have n2_ := Aside0.mk (Kd.R_mono (Kd.R_told (Kd.R_told (Kd.R_old (zR11 HO_5.out) hb) (Kd.R_base ho0)) (Kd.R_base ho1)) (fun _ h_ => h_.1)); have n3_ := Aside0.mk (Kd.R_mono (Kd.R_told (Kd.R_told (Kd.R_old (zR11 HO_478000.out) hb) (Kd.R_base ho0)) (Kd.R_base ho1)) (fun _ h_ => h_.1)); have n4_ := Aside0.mk (Kd.R_mono (Kd.R_told (Kd.R_told (Kd.R_old (zR11 HO485.out) hb) (Kd.R_base ho0)) (Kd.R_base ho1)) (fun _ h_ => h_.1)); have n5_ := Aside0.mk (Kd.R_lower (Kd.R_new' (Kd.R_new' (Kd.R_new' (Kd.R_new' ho0 (Kd.R_lt (zR11 HO_3.out))) (Kd.R_lt (zR11 HO_5.out))) (Kd.R_lt (zR11 HO_478000.out))) (Kd.R_lt (zR11 HO485.out))) (below_size (zB11_1))); have n6_ := Aside0.mk (Kd.R_lower (Kd.R_new' (Kd.R_new' (Kd.R_new' (Kd.R_new' ho1 (Kd.R_lt (zR11 HO_3.out))) (Kd.R_lt (zR11 HO_5.out))) (Kd.R_lt (zR11 HO_478000.out))) (Kd.R_lt (zR11 HO485.out))) (below_size (zB11_1))); have n7_ := Aside0.mk (zb11 BK477.out hb); have n8_ := Aside0.mk (below_step (zB11_1) hb); clear HO_3; clear HO_4; clear HO_5; clear HO_478000; clear HO485; clear BK477; clear HB; have HO_3 := n0_; have HO_4 := n1_; have HO_5 := n2_; have HO_478000 := n3_; have HO485 := n4_; have HO488 := n5_; have HO491 := n6_; have BK477 := n7_; have HB := n8_; clear n0_ n1_ n2_ n3_ n4_ n5_ n6_ n7_ n8_; (try clear hb); (try clear hb2); (try clear hk); (try clear hi); (try clear ho0); (try clear ho1)) | ((with_reducible refine gate_dst (N := 10) rfl ?_); (try (refine gate_guard (by rfl) ?_; dsimp only)); refine box_event ?hg (N := 10) ?hd (cs := #[.slice none 0 0, .int .i64 0, .int .i64 0]) (t := 29) ?hr ?_; (case hd => rfl); (case hg => rfl); (case hr => first | (go_simp; done) | (go_simp; rfl)); intro gb494 hg w50 hbox hb; have n0_ := Aside0.mk (Kd.R_below (zR11 HO_3.out) hb); have n1_ := Aside0.mk (Kd.S_below (Kd.S_elderB (zS11 HO_4.out) gb494 (Nat.le_of_eq hg.symm)) hb); have n2_ := Aside0.mk (Kd.R_below (zR11 HO_5.out) hb); have n3_ := Aside0.mk (Kd.R_below (zR11 HO_478000.out) hb); have n4_ := Aside0.mk (Kd.R_below (zR11 HO485.out) hb); have n5_ := Aside0.mk (Kd.R_below (zR11 HO488.out) hb); have n6_ := Aside0.mk (Kd.R_below (zR11 HO491.out) hb); have n7_ := Aside0.mk (zb11 BK477.out hb); have n8_ := Aside0.mk (below_step (zB11_1) hb); have n9_ := Aside0.mk (hbox); have n10_ := Aside0.mk ((by rw [hg]; exact (below_size (zB11_1)) : w.heap.size ≤ gb494)); have n11_ := Aside0.mk ((by rw [hg]; exact (below_size (zB11_1)) : w.heap.size ≤ gb494)); have n12_ := Aside0.mk ((zn11 BK477.out hg : gb477 ≠ gb494)); have n13_ := Aside0.mk ((zm11 BK477.out hg : gb494 ≠ gb477)); clear HO_3; clear HO_4; clear HO_5; clear HO_478000; clear HO485; clear HO488; clear HO491; clear BK477; clear HB; have HO_3 := n0_; have HO_4 := n1_; have HO_5 := n2_; have HO_478000 := n3_; have HO485 := n4_; have HO488 := n5_; have HO491 := n6_; have BK477 := n7_; have HB := n8_; have BK494 := n9_; have GW494 := n10_; have GE494 := n11_; have NB477_494 := n12_; have NB494_477 := n13_; clear n0_ n1_ n2_ n3_ n4_ n5_ n6_ n7_ n8_ n9_ n10_ n11_ n12_ n13_; clear hb hbox hg; obtain ⟨Ao51, co51, eo51⟩ := Kd.R_slice HO491.out; subst eo51; have hnb52 := NB494_477.out; have hnc52 := NB477_494.out; obtain ⟨hcz53_0, hcz53_1, hcz53_2, hfz53_0, hfz53_1, hfz53_2⟩ := zc11_3 (w := w50) BK494.out; obtain ⟨hcz54_0, hcz54_1, hcz54_2, hfz54_0, hfz54_1, hfz54_2⟩ := zc11_3 (w := w50) BK477.out))
     go_roundg k1
     case measure => have := HK1.out; omega
     case rel => exact ⟨(t486), (wrap64 (x7_1 + 1)), (t489), (t492), (t493), (.slice Ao51 t489.length co51), (.slice Ao51 t489.length co51), (by first | rfl | (simp; done) | (simp [*]; done)), H', ⟨by have := HK1.out; omega⟩, ⟨by (with_reducible repeat (first | apply Kd.R_alloc | apply Kd.R_drewN | apply Kd.R_drew)); exact Kd.R_mono (Kd.R_far (p := ⟨gb477, 2, none⟩) (Kd.R_far (p := ⟨gb477, 1, none⟩) (Kd.R_far (p := ⟨gb477, 0, none⟩) (Kd.R_far (p := ⟨gb494, 2, none⟩) (Kd.R_far (p := ⟨gb494, 1, none⟩) (Kd.R_far (p := ⟨gb494, 0, none⟩) (Kd.R_types (Kd.R_types HO488.out BK494.out (by decide)) BK477.out (by decide)) (fun _ hk => hk.1.2) (.slice Ao51 t489.length co51)) (fun _ hk => hk.1.2) (.int .i64 t492)) (fun _ hk => hk.1.2) (.int .i64 t493)) (fun _ hk => hk.2) (.slice Ao51 t489.length co51)) (fun _ hk => hk.2) (.int .i64 t492)) (fun _ hk => hk.2) (.int .i64 t493)) (fun _ hk => ⟨hk.1.1.1.1.2, hk.1.1.1.1.1.1⟩)⟩, ⟨by (with_reducible repeat (first | apply Kd.S_alloc | apply Kd.S_drewN | apply Kd.S_drew)); exact Kd.S_mono (Kd.S_far (p := ⟨gb477, 2, none⟩) (Kd.S_far (p := ⟨gb477, 1, none⟩) (Kd.S_far (p := ⟨gb477, 0, none⟩) (Kd.S_far (p := ⟨gb494, 2, none⟩) (Kd.S_far (p := ⟨gb494, 1, none⟩) (Kd.S_far (p := ⟨gb494, 0, none⟩) (Kd.S_mono (Kd.S_mono HO_4.out (fun k_ hk => (⟨hk, hk.2⟩ : _ ∧ k_ ≠ gb494))) (fun k_ hk => (⟨hk, hk.1.1.1.1.1.2.2.2⟩ : _ ∧ k_ ≠ gb477))) (fun _ hk => hk.1.2) (.slice Ao51 t489.length co51)) (fun _ hk => hk.1.2) (.int .i64 t492)) (fun _ hk => hk.1.2) (.int .i64 t493)) (fun _ hk => hk.2) (.slice Ao51 t489.length co51)) (fun _ hk => hk.2) (.int .i64 t492)) (fun _ hk => hk.2) (.int .i64 t493)) (fun _ hk => ⟨hk.1.1.1.1.2, ⟨hk.1.1.1.1.1.1.2.1, ⟨hk.1.1.1.2, hk.1.1.1.1.1.1.2.2.2⟩⟩⟩)⟩, ⟨by (with_reducible repeat (first | apply Kd.R_alloc | apply Kd.R_drewN | apply Kd.R_drew)); exact Kd.R_mono (Kd.R_far (p := ⟨gb477, 2, none⟩) (Kd.R_far (p := ⟨gb477, 1, none⟩) (Kd.R_far (p := ⟨gb477, 0, none⟩) (Kd.R_far (p := ⟨gb494, 2, none⟩) (Kd.R_far (p := ⟨gb494, 1, none⟩) (Kd.R_far (p := ⟨gb494, 0, none⟩) (Kd.R_types (Kd.R_types HO_5.out BK494.out (by decide)) BK477.out (by decide)) (fun _ hk => hk.1.2) (.slice Ao51 t489.length co51)) (fun _ hk => hk.1.2) (.int .i64 t492)) (fun _ hk => hk.1.2) (.int .i64 t493)) (fun _ hk => hk.2) (.slice Ao51 t489.length co51)) (fun _ hk => hk.2) (.int .i64 t492)) (fun _ hk => hk.2) (.int .i64 t493)) (fun _ hk => ⟨hk.1.1.1.2, hk.1.1.2⟩)⟩, ⟨by (with_reducible repeat (first | apply Kd.R_alloc | apply Kd.R_drewN | apply Kd.R_drew)); exact Kd.R_mono (Kd.R_far (p := ⟨gb477, 2, none⟩) (Kd.R_far (p := ⟨gb477, 1, none⟩) (Kd.R_far (p := ⟨gb477, 0, none⟩) (Kd.R_far (p := ⟨gb494, 2, none⟩) (Kd.R_far (p := ⟨gb494, 1, none⟩) (Kd.R_far (p := ⟨gb494, 0, none⟩) (Kd.R_types (Kd.R_types HO491.out BK494.out (by decide)) BK477.out (by decide)) (fun _ hk => hk.1.2) (.slice Ao51 t489.length co51)) (fun _ hk => hk.1.2) (.int .i64 t492)) (fun _ hk => hk.1.2) (.int .i64 t493)) (fun _ hk => hk.2) (.slice Ao51 t489.length co51)) (fun _ hk => hk.2) (.int .i64 t492)) (fun _ hk => hk.2) (.int .i64 t493)) (fun _ hk => ⟨hk.1.1.1.1.1.1, hk.1.1.1.1.2⟩)⟩, ⟨by refine zP11 ?_; refine blk_put (cs := #[.slice Ao51 t489.length co51, .int .i64 t492, .int .i64 x478002_1]) ?_ 2 _ rfl; refine zP11 ?_; refine blk_put (cs := #[.slice Ao51 t489.length co51, .int .i64 x478001_1, .int .i64 x478002_1]) ?_ 1 _ rfl; refine zP11 ?_; refine blk_put (cs := #[.slice Ao48 x478000_1.length co48, .int .i64 x478001_1, .int .i64 x478002_1]) ?_ 0 _ rfl; refine zP11 ?_; refine blk_far ?_ NB477_494.out _; refine zP11 ?_; refine blk_far ?_ NB477_494.out _; refine zP11 ?_; refine blk_far ?_ NB477_494.out _; refine zP11 ?_; exact BK477.out⟩, ⟨zB11_2⟩⟩
    rw [if_pos c17] at H
    have c17b0 : (x478002_1 == 0) = true := beq_iff_eq.mpr c17
    have c17b1 : (x478002_1 != 0) = false := bne_eq_false_iff_eq.mpr c17
    clear c17
    replace H := Option.bind_eq_some_iff.mp H
    obtain ⟨t495, A180, H⟩ := H
    replace H : (if t495 = true then (laws_FnGoes.l0 k1 l0 t486 t468 t469 (wrap64 (x7_1 + 1)) t489 t492 t493) else (some false)) = some r := H
    have A18 := Aside0.mk A180
    clear A180
    by_cases c19 : t495 = true
    rotate_left
    ·replace c19 := Bool.eq_false_iff.mpr c19
     subst c19
     have H1 : (some false) = some r := by rw [if_neg (show ¬ (false = true) by decide)] at H; exact H
     clear H
     have H := H1
     clear H1
     obtain rfl := Option.some.inj H
     obtain ⟨hcz32_0, hcz32_1, hcz32_2, hfz32_0, hfz32_1, hfz32_2⟩ := zc11_3 (w := wr) BK477.out
     obtain ⟨Ao33, co33, eo33⟩ := Kd.R_slice HO_3.out
     subst eo33
     go_wp2_with (first | ((with_reducible refine gate_callee (f := 6) rfl ?_); refine goesL_ (some 36) rfl rfl Try.func6 (by kernel_rfl) rfl #[.slice Ao33 x3_1.length co33, .int .i64 x478001_1] rfl zT11 ?_; (with_reducible refine (impl_NextOf.calls k1 _ _ x3_1 x478001_1 t483 _ ?side1 ?side2 A14.out).mono ?_); (case side1 => exact zC11 (Kd.R_reads' HO_3.out).2.2); (case side2 => exact (Kd.R_reads' HO_3.out).2.1); rintro e w34 ⟨v484, rfl, ho0, hb⟩; refine ⟨_, rfl, ?_⟩; have n0_ := Aside0.mk (Kd.R_elder' (zR11 HO_3.out) (Kd.R_base ho0) hb); have n1_ := Aside0.mk (Kd.S_elder' (zS11 HO_4.out) (Kd.R_base ho0) hb); have n2_ := Aside0.mk (Kd.R_elder' (zR11 HO_5.out) (Kd.R_base ho0) hb); have n3_ := Aside0.mk (Kd.R_elder' (zR11 HO_478000.out) (Kd.R_base ho0) hb); have n4_ := Aside0.mk (Kd.R_lower (Kd.R_new' (Kd.R_new' (Kd.R_new' ho0 (Kd.R_lt (zR11 HO_3.out))) (Kd.R_lt (zR11 HO_5.out))) (Kd.R_lt (zR11 HO_478000.out))) (below_size (zB11_1))); have n5_ := Aside0.mk (zb11 BK477.out hb); have n6_ := Aside0.mk (below_step (zB11_1) hb); clear HO_3; clear HO_4; clear HO_5; clear HO_478000; clear BK477; clear HB; have HO_3 := n0_; have HO_4 := n1_; have HO_5 := n2_; have HO_478000 := n3_; have HO485 := n4_; have BK477 := n5_; have HB := n6_; clear n0_ n1_ n2_ n3_ n4_ n5_ n6_; (try clear hb); (try clear hb2); (try clear hk); (try clear hi); (try clear ho0); obtain ⟨hcz35_0, hcz35_1, hcz35_2, hfz35_0, hfz35_1, hfz35_2⟩ := zc11_3 (w := w34) BK477.out; obtain ⟨Ao36, co36, eo36⟩ := Kd.R_slice HO_478000.out; subst eo36) | ((with_reducible refine gate_callee (f := 7) rfl ?_); refine goesL_ (some 40) rfl rfl Try.func7 (by kernel_rfl) rfl #[.slice Ao33 x3_1.length co33, .agg #[.slice Ao36 x478000_1.length co36, .int .i64 x478001_1, .int .i64 x478002_1]] rfl zT11 ?_; (with_reducible refine (impl_FlatStep.calls k1 _ _ x3_1 _ _ x478000_1 x478001_1 x478002_1 t486 t489 t492 t493 _ ?side1 ?side2 ?side3 ?side4 A15.out).mono ?_); (case side1 => exact zC11 (Kd.R_reads' HO_3.out).2.2); (case side2 => exact (Kd.R_reads' HO_3.out).2.1); (case side3 => exact zC11 (Kd.R_reads' HO_478000.out).2.2); (case side4 => exact (Kd.R_reads' HO_478000.out).2.1); rintro e w37 ⟨v487, v490, rfl, ho0, ho1, hb⟩; refine ⟨_, rfl, ?_⟩; have n0_ := Aside0.mk (Kd.R_mono (Kd.R_told (Kd.R_told (Kd.R_old (zR11 HO_3.out) hb) (Kd.R_base ho0)) (Kd.R_base ho1)) (fun _ h_ => h_.1)); have n1_ := Aside0.mk (Kd.S_mono (Kd.S_told (Kd.S_told (Kd.S_old (zS11 HO_4.out) hb) (Kd.R_base ho0)) (Kd.R_base ho1)) (fun _ h_ => h_.1)); have n2_ := Aside0.mk (Kd.R_mono (Kd.R_told (Kd.R_told (Kd.R_old (zR11 HO_5.out) hb) (Kd.R_base ho0)) (Kd.R_base ho1)) (fun _ h_ => h_.1)); have n3_ := Aside0.mk (Kd.R_mono (Kd.R_told (Kd.R_told (Kd.R_old (zR11 HO_478000.out) hb) (Kd.R_base ho0)) (Kd.R_base ho1)) (fun _ h_ => h_.1)); have n4_ := Aside0.mk (Kd.R_mono (Kd.R_told (Kd.R_told (Kd.R_old (zR11 HO485.out) hb) (Kd.R_base ho0)) (Kd.R_base ho1)) (fun _ h_ => h_.1)); have n5_ := Aside0.mk (Kd.R_lower (Kd.R_new' (Kd.R_new' (Kd.R_new' (Kd.R_new' ho0 (Kd.R_lt (zR11 HO_3.out))) (Kd.R_lt (zR11 HO_5.out))) (Kd.R_lt (zR11 HO_478000.out))) (Kd.R_lt (zR11 HO485.out))) (below_size (zB11_1))); have n6_ := Aside0.mk (Kd.R_lower (Kd.R_new' (Kd.R_new' (Kd.R_new' (Kd.R_new' ho1 (Kd.R_lt (zR11 HO_3.out))) (Kd.R_lt (zR11 HO_5.out))) (Kd.R_lt (zR11 HO_478000.out))) (Kd.R_lt (zR11 HO485.out))) (below_size (zB11_1))); have n7_ := Aside0.mk (zb11 BK477.out hb); have n8_ := Aside0.mk (below_step (zB11_1) hb); clear HO_3; clear HO_4; clear HO_5; clear HO_478000; clear HO485; clear BK477; clear HB; have HO_3 := n0_; have HO_4 := n1_; have HO_5 := n2_; have HO_478000 := n3_; have HO485 := n4_; have HO488 := n5_; have HO491 := n6_; have BK477 := n7_; have HB := n8_; clear n0_ n1_ n2_ n3_ n4_ n5_ n6_ n7_ n8_; (try clear hb); (try clear hb2); (try clear hk); (try clear hi); (try clear ho0); (try clear ho1)) | ((with_reducible refine gate_dst (N := 10) rfl ?_); (try (refine gate_guard (by rfl) ?_; dsimp only)); refine box_event ?hg (N := 10) ?hd (cs := #[.slice none 0 0, .int .i64 0, .int .i64 0]) (t := 29) ?hr ?_; (case hd => rfl); (case hg => rfl); (case hr => first | (go_simp; done) | (go_simp; rfl)); intro gb494 hg w38 hbox hb; have n0_ := Aside0.mk (Kd.R_below (zR11 HO_3.out) hb); have n1_ := Aside0.mk (Kd.S_below (Kd.S_elderB (zS11 HO_4.out) gb494 (Nat.le_of_eq hg.symm)) hb); have n2_ := Aside0.mk (Kd.R_below (zR11 HO_5.out) hb); have n3_ := Aside0.mk (Kd.R_below (zR11 HO_478000.out) hb); have n4_ := Aside0.mk (Kd.R_below (zR11 HO485.out) hb); have n5_ := Aside0.mk (Kd.R_below (zR11 HO488.out) hb); have n6_ := Aside0.mk (Kd.R_below (zR11 HO491.out) hb); have n7_ := Aside0.mk (zb11 BK477.out hb); have n8_ := Aside0.mk (below_step (zB11_1) hb); have n9_ := Aside0.mk (hbox); have n10_ := Aside0.mk ((by rw [hg]; exact (below_size (zB11_1)) : w.heap.size ≤ gb494)); have n11_ := Aside0.mk ((by rw [hg]; exact (below_size (zB11_1)) : w.heap.size ≤ gb494)); have n12_ := Aside0.mk ((zn11 BK477.out hg : gb477 ≠ gb494)); have n13_ := Aside0.mk ((zm11 BK477.out hg : gb494 ≠ gb477)); clear HO_3; clear HO_4; clear HO_5; clear HO_478000; clear HO485; clear HO488; clear HO491; clear BK477; clear HB; have HO_3 := n0_; have HO_4 := n1_; have HO_5 := n2_; have HO_478000 := n3_; have HO485 := n4_; have HO488 := n5_; have HO491 := n6_; have BK477 := n7_; have HB := n8_; have BK494 := n9_; have GW494 := n10_; have GE494 := n11_; have NB477_494 := n12_; have NB494_477 := n13_; clear n0_ n1_ n2_ n3_ n4_ n5_ n6_ n7_ n8_ n9_ n10_ n11_ n12_ n13_; clear hb hbox hg; obtain ⟨Ao39, co39, eo39⟩ := Kd.R_slice HO491.out; subst eo39; have hnb40 := NB494_477.out; have hnc40 := NB477_494.out; obtain ⟨hcz41_0, hcz41_1, hcz41_2, hfz41_0, hfz41_1, hfz41_2⟩ := zc11_3 (w := w38) BK494.out; obtain ⟨hcz42_0, hcz42_1, hcz42_2, hfz42_0, hfz42_1, hfz42_2⟩ := zc11_3 (w := w38) BK477.out; obtain ⟨Ao43, co43, eo43⟩ := Kd.R_slice HO485.out; subst eo43) | (go_at_call 8; (with_reducible refine (laws_within.calls k1 _ _ t483 t492 false _ ?side1 ?side2 A18.out).mono ?_); (case side1 => refine (Kd.R_reads' (e := 3) (base := w.heap.size) (ok := fun k_ => (((((True ∧ some k_ ≠ (.slice Ao33 x3_1.length co33 : Value).ownBlock) ∧ some k_ ≠ (v474 : Value).ownBlock) ∧ some k_ ≠ (.slice Ao36 x478000_1.length co36 : Value).ownBlock) ∧ some k_ ≠ (v487 : Value).ownBlock) ∧ some k_ ≠ (.slice Ao39 t489.length co39 : Value).ownBlock)) (n := t483.length) (c := co43) ?_).2.2; exact (by (with_reducible repeat (first | apply Kd.R_alloc | apply Kd.R_drewN | apply Kd.R_drew)); exact (Kd.R_mono (Kd.R_far (p := ⟨gb494, 2, none⟩) (Kd.R_far (p := ⟨gb494, 1, none⟩) (Kd.R_far (p := ⟨gb494, 0, none⟩) (Kd.R_types HO485.out BK494.out (by decide)) (fun _ hk => hk.2) (.slice Ao39 t489.length co39)) (fun _ hk => hk.2) (.int .i64 t492)) (fun _ hk => hk.2) (.int .i64 t493)) (fun _ h_ => h_.1)))); (case side2 => exact (Kd.R_reads' HO485.out).2.1); rintro e w' ⟨rfl, ⟨nd, rfl⟩⟩))
     go_ret
     exact ⟨zE11, zB11_2⟩
    subst c19
    have H1 : (laws_FnGoes.l0 k1 l0 t486 t468 t469 (wrap64 (x7_1 + 1)) t489 t492 t493) = some r := by rw [if_pos rfl] at H; exact H
    clear H
    have H := H1
    clear H1
    have H' := Aside0.mk H
    clear H
    obtain ⟨hcz20_0, hcz20_1, hcz20_2, hfz20_0, hfz20_1, hfz20_2⟩ := zc11_3 (w := wr) BK477.out
    obtain ⟨Ao21, co21, eo21⟩ := Kd.R_slice HO_3.out
    subst eo21
    go_wp2_with (first | ((with_reducible refine gate_callee (f := 6) rfl ?_); refine goesL_ (some 36) rfl rfl Try.func6 (by kernel_rfl) rfl #[.slice Ao21 x3_1.length co21, .int .i64 x478001_1] rfl zT11 ?_; (with_reducible refine (impl_NextOf.calls k1 _ _ x3_1 x478001_1 t483 _ ?side1 ?side2 A14.out).mono ?_); (case side1 => exact zC11 (Kd.R_reads' HO_3.out).2.2); (case side2 => exact (Kd.R_reads' HO_3.out).2.1); rintro e w22 ⟨v484, rfl, ho0, hb⟩; refine ⟨_, rfl, ?_⟩; have n0_ := Aside0.mk (Kd.R_elder' (zR11 HO_3.out) (Kd.R_base ho0) hb); have n1_ := Aside0.mk (Kd.S_elder' (zS11 HO_4.out) (Kd.R_base ho0) hb); have n2_ := Aside0.mk (Kd.R_elder' (zR11 HO_5.out) (Kd.R_base ho0) hb); have n3_ := Aside0.mk (Kd.R_elder' (zR11 HO_478000.out) (Kd.R_base ho0) hb); have n4_ := Aside0.mk (Kd.R_lower (Kd.R_new' (Kd.R_new' (Kd.R_new' ho0 (Kd.R_lt (zR11 HO_3.out))) (Kd.R_lt (zR11 HO_5.out))) (Kd.R_lt (zR11 HO_478000.out))) (below_size (zB11_1))); have n5_ := Aside0.mk (zb11 BK477.out hb); have n6_ := Aside0.mk (below_step (zB11_1) hb); clear HO_3; clear HO_4; clear HO_5; clear HO_478000; clear BK477; clear HB; have HO_3 := n0_; have HO_4 := n1_; have HO_5 := n2_; have HO_478000 := n3_; have HO485 := n4_; have BK477 := n5_; have HB := n6_; clear n0_ n1_ n2_ n3_ n4_ n5_ n6_; (try clear hb); (try clear hb2); (try clear hk); (try clear hi); (try clear ho0); obtain ⟨hcz23_0, hcz23_1, hcz23_2, hfz23_0, hfz23_1, hfz23_2⟩ := zc11_3 (w := w22) BK477.out; obtain ⟨Ao24, co24, eo24⟩ := Kd.R_slice HO_478000.out; subst eo24) | ((with_reducible refine gate_callee (f := 7) rfl ?_); refine goesL_ (some 40) rfl rfl Try.func7 (by kernel_rfl) rfl #[.slice Ao21 x3_1.length co21, .agg #[.slice Ao24 x478000_1.length co24, .int .i64 x478001_1, .int .i64 x478002_1]] rfl zT11 ?_; (with_reducible refine (impl_FlatStep.calls k1 _ _ x3_1 _ _ x478000_1 x478001_1 x478002_1 t486 t489 t492 t493 _ ?side1 ?side2 ?side3 ?side4 A15.out).mono ?_); (case side1 => exact zC11 (Kd.R_reads' HO_3.out).2.2); (case side2 => exact (Kd.R_reads' HO_3.out).2.1); (case side3 => exact zC11 (Kd.R_reads' HO_478000.out).2.2); (case side4 => exact (Kd.R_reads' HO_478000.out).2.1); rintro e w25 ⟨v487, v490, rfl, ho0, ho1, hb⟩; refine ⟨_, rfl, ?_⟩; have n0_ := Aside0.mk (Kd.R_mono (Kd.R_told (Kd.R_told (Kd.R_old (zR11 HO_3.out) hb) (Kd.R_base ho0)) (Kd.R_base ho1)) (fun _ h_ => h_.1)); have n1_ := Aside0.mk (Kd.S_mono (Kd.S_told (Kd.S_told (Kd.S_old (zS11 HO_4.out) hb) (Kd.R_base ho0)) (Kd.R_base ho1)) (fun _ h_ => h_.1)); have n2_ := Aside0.mk (Kd.R_mono (Kd.R_told (Kd.R_told (Kd.R_old (zR11 HO_5.out) hb) (Kd.R_base ho0)) (Kd.R_base ho1)) (fun _ h_ => h_.1)); have n3_ := Aside0.mk (Kd.R_mono (Kd.R_told (Kd.R_told (Kd.R_old (zR11 HO_478000.out) hb) (Kd.R_base ho0)) (Kd.R_base ho1)) (fun _ h_ => h_.1)); have n4_ := Aside0.mk (Kd.R_mono (Kd.R_told (Kd.R_told (Kd.R_old (zR11 HO485.out) hb) (Kd.R_base ho0)) (Kd.R_base ho1)) (fun _ h_ => h_.1)); have n5_ := Aside0.mk (Kd.R_lower (Kd.R_new' (Kd.R_new' (Kd.R_new' (Kd.R_new' ho0 (Kd.R_lt (zR11 HO_3.out))) (Kd.R_lt (zR11 HO_5.out))) (Kd.R_lt (zR11 HO_478000.out))) (Kd.R_lt (zR11 HO485.out))) (below_size (zB11_1))); have n6_ := Aside0.mk (Kd.R_lower (Kd.R_new' (Kd.R_new' (Kd.R_new' (Kd.R_new' ho1 (Kd.R_lt (zR11 HO_3.out))) (Kd.R_lt (zR11 HO_5.out))) (Kd.R_lt (zR11 HO_478000.out))) (Kd.R_lt (zR11 HO485.out))) (below_size (zB11_1))); have n7_ := Aside0.mk (zb11 BK477.out hb); have n8_ := Aside0.mk (below_step (zB11_1) hb); clear HO_3; clear HO_4; clear HO_5; clear HO_478000; clear HO485; clear BK477; clear HB; have HO_3 := n0_; have HO_4 := n1_; have HO_5 := n2_; have HO_478000 := n3_; have HO485 := n4_; have HO488 := n5_; have HO491 := n6_; have BK477 := n7_; have HB := n8_; clear n0_ n1_ n2_ n3_ n4_ n5_ n6_ n7_ n8_; (try clear hb); (try clear hb2); (try clear hk); (try clear hi); (try clear ho0); (try clear ho1)) | ((with_reducible refine gate_dst (N := 10) rfl ?_); (try (refine gate_guard (by rfl) ?_; dsimp only)); refine box_event ?hg (N := 10) ?hd (cs := #[.slice none 0 0, .int .i64 0, .int .i64 0]) (t := 29) ?hr ?_; (case hd => rfl); (case hg => rfl); (case hr => first | (go_simp; done) | (go_simp; rfl)); intro gb494 hg w26 hbox hb; have n0_ := Aside0.mk (Kd.R_below (zR11 HO_3.out) hb); have n1_ := Aside0.mk (Kd.S_below (Kd.S_elderB (zS11 HO_4.out) gb494 (Nat.le_of_eq hg.symm)) hb); have n2_ := Aside0.mk (Kd.R_below (zR11 HO_5.out) hb); have n3_ := Aside0.mk (Kd.R_below (zR11 HO_478000.out) hb); have n4_ := Aside0.mk (Kd.R_below (zR11 HO485.out) hb); have n5_ := Aside0.mk (Kd.R_below (zR11 HO488.out) hb); have n6_ := Aside0.mk (Kd.R_below (zR11 HO491.out) hb); have n7_ := Aside0.mk (zb11 BK477.out hb); have n8_ := Aside0.mk (below_step (zB11_1) hb); have n9_ := Aside0.mk (hbox); have n10_ := Aside0.mk ((by rw [hg]; exact (below_size (zB11_1)) : w.heap.size ≤ gb494)); have n11_ := Aside0.mk ((by rw [hg]; exact (below_size (zB11_1)) : w.heap.size ≤ gb494)); have n12_ := Aside0.mk ((zn11 BK477.out hg : gb477 ≠ gb494)); have n13_ := Aside0.mk ((zm11 BK477.out hg : gb494 ≠ gb477)); clear HO_3; clear HO_4; clear HO_5; clear HO_478000; clear HO485; clear HO488; clear HO491; clear BK477; clear HB; have HO_3 := n0_; have HO_4 := n1_; have HO_5 := n2_; have HO_478000 := n3_; have HO485 := n4_; have HO488 := n5_; have HO491 := n6_; have BK477 := n7_; have HB := n8_; have BK494 := n9_; have GW494 := n10_; have GE494 := n11_; have NB477_494 := n12_; have NB494_477 := n13_; clear n0_ n1_ n2_ n3_ n4_ n5_ n6_ n7_ n8_ n9_ n10_ n11_ n12_ n13_; clear hb hbox hg; obtain ⟨Ao27, co27, eo27⟩ := Kd.R_slice HO491.out; subst eo27; have hnb28 := NB494_477.out; have hnc28 := NB477_494.out; obtain ⟨hcz29_0, hcz29_1, hcz29_2, hfz29_0, hfz29_1, hfz29_2⟩ := zc11_3 (w := w26) BK494.out; obtain ⟨hcz30_0, hcz30_1, hcz30_2, hfz30_0, hfz30_1, hfz30_2⟩ := zc11_3 (w := w26) BK477.out; obtain ⟨Ao31, co31, eo31⟩ := Kd.R_slice HO485.out; subst eo31) | (go_at_call 8; (with_reducible refine (laws_within.calls k1 _ _ t483 t492 true _ ?side1 ?side2 A18.out).mono ?_); (case side1 => refine (Kd.R_reads' (e := 3) (base := w.heap.size) (ok := fun k_ => (((((True ∧ some k_ ≠ (.slice Ao21 x3_1.length co21 : Value).ownBlock) ∧ some k_ ≠ (v474 : Value).ownBlock) ∧ some k_ ≠ (.slice Ao24 x478000_1.length co24 : Value).ownBlock) ∧ some k_ ≠ (v487 : Value).ownBlock) ∧ some k_ ≠ (.slice Ao27 t489.length co27 : Value).ownBlock)) (n := t483.length) (c := co31) ?_).2.2; exact (by (with_reducible repeat (first | apply Kd.R_alloc | apply Kd.R_drewN | apply Kd.R_drew)); exact (Kd.R_mono (Kd.R_far (p := ⟨gb494, 2, none⟩) (Kd.R_far (p := ⟨gb494, 1, none⟩) (Kd.R_far (p := ⟨gb494, 0, none⟩) (Kd.R_types HO485.out BK494.out (by decide)) (fun _ hk => hk.2) (.slice Ao27 t489.length co27)) (fun _ hk => hk.2) (.int .i64 t492)) (fun _ hk => hk.2) (.int .i64 t493)) (fun _ h_ => h_.1)))); (case side2 => exact (Kd.R_reads' HO485.out).2.1); rintro e w' ⟨rfl, ⟨nd, rfl⟩⟩))
    go_roundg k1
    case measure => have := HK1.out; omega
    case rel => exact ⟨(t486), (wrap64 (x7_1 + 1)), (t489), (t492), (t493), (.slice Ao27 t489.length co27), (.slice Ao27 t489.length co27), (by first | rfl | (simp; done) | (simp [*]; done)), H', ⟨by have := HK1.out; omega⟩, ⟨by (with_reducible repeat (first | apply Kd.R_alloc | apply Kd.R_drewN | apply Kd.R_drew)); exact Kd.R_mono (Kd.R_far (p := ⟨gb477, 2, none⟩) (Kd.R_far (p := ⟨gb477, 1, none⟩) (Kd.R_far (p := ⟨gb477, 0, none⟩) (Kd.R_far (p := ⟨gb494, 2, none⟩) (Kd.R_far (p := ⟨gb494, 1, none⟩) (Kd.R_far (p := ⟨gb494, 0, none⟩) (Kd.R_types (Kd.R_types HO488.out BK494.out (by decide)) BK477.out (by decide)) (fun _ hk => hk.1.2) (.slice Ao27 t489.length co27)) (fun _ hk => hk.1.2) (.int .i64 t492)) (fun _ hk => hk.1.2) (.int .i64 t493)) (fun _ hk => hk.2) (.slice Ao27 t489.length co27)) (fun _ hk => hk.2) (.int .i64 t492)) (fun _ hk => hk.2) (.int .i64 t493)) (fun _ hk => ⟨hk.1.1.1.1.2, hk.1.1.1.1.1.1⟩)⟩, ⟨by (with_reducible repeat (first | apply Kd.S_alloc | apply Kd.S_drewN | apply Kd.S_drew)); exact Kd.S_mono (Kd.S_far (p := ⟨gb477, 2, none⟩) (Kd.S_far (p := ⟨gb477, 1, none⟩) (Kd.S_far (p := ⟨gb477, 0, none⟩) (Kd.S_far (p := ⟨gb494, 2, none⟩) (Kd.S_far (p := ⟨gb494, 1, none⟩) (Kd.S_far (p := ⟨gb494, 0, none⟩) (Kd.S_mono (Kd.S_mono HO_4.out (fun k_ hk => (⟨hk, hk.2⟩ : _ ∧ k_ ≠ gb494))) (fun k_ hk => (⟨hk, hk.1.1.1.1.1.2.2.2⟩ : _ ∧ k_ ≠ gb477))) (fun _ hk => hk.1.2) (.slice Ao27 t489.length co27)) (fun _ hk => hk.1.2) (.int .i64 t492)) (fun _ hk => hk.1.2) (.int .i64 t493)) (fun _ hk => hk.2) (.slice Ao27 t489.length co27)) (fun _ hk => hk.2) (.int .i64 t492)) (fun _ hk => hk.2) (.int .i64 t493)) (fun _ hk => ⟨hk.1.1.1.1.2, ⟨hk.1.1.1.1.1.1.2.1, ⟨hk.1.1.1.2, hk.1.1.1.1.1.1.2.2.2⟩⟩⟩)⟩, ⟨by (with_reducible repeat (first | apply Kd.R_alloc | apply Kd.R_drewN | apply Kd.R_drew)); exact Kd.R_mono (Kd.R_far (p := ⟨gb477, 2, none⟩) (Kd.R_far (p := ⟨gb477, 1, none⟩) (Kd.R_far (p := ⟨gb477, 0, none⟩) (Kd.R_far (p := ⟨gb494, 2, none⟩) (Kd.R_far (p := ⟨gb494, 1, none⟩) (Kd.R_far (p := ⟨gb494, 0, none⟩) (Kd.R_types (Kd.R_types HO_5.out BK494.out (by decide)) BK477.out (by decide)) (fun _ hk => hk.1.2) (.slice Ao27 t489.length co27)) (fun _ hk => hk.1.2) (.int .i64 t492)) (fun _ hk => hk.1.2) (.int .i64 t493)) (fun _ hk => hk.2) (.slice Ao27 t489.length co27)) (fun _ hk => hk.2) (.int .i64 t492)) (fun _ hk => hk.2) (.int .i64 t493)) (fun _ hk => ⟨hk.1.1.1.2, hk.1.1.2⟩)⟩, ⟨by (with_reducible repeat (first | apply Kd.R_alloc | apply Kd.R_drewN | apply Kd.R_drew)); exact Kd.R_mono (Kd.R_far (p := ⟨gb477, 2, none⟩) (Kd.R_far (p := ⟨gb477, 1, none⟩) (Kd.R_far (p := ⟨gb477, 0, none⟩) (Kd.R_far (p := ⟨gb494, 2, none⟩) (Kd.R_far (p := ⟨gb494, 1, none⟩) (Kd.R_far (p := ⟨gb494, 0, none⟩) (Kd.R_types (Kd.R_types HO491.out BK494.out (by decide)) BK477.out (by decide)) (fun _ hk => hk.1.2) (.slice Ao27 t489.length co27)) (fun _ hk => hk.1.2) (.int .i64 t492)) (fun _ hk => hk.1.2) (.int .i64 t493)) (fun _ hk => hk.2) (.slice Ao27 t489.length co27)) (fun _ hk => hk.2) (.int .i64 t492)) (fun _ hk => hk.2) (.int .i64 t493)) (fun _ hk => ⟨hk.1.1.1.1.1.1, hk.1.1.1.1.2⟩)⟩, ⟨by refine zP11 ?_; refine blk_put (cs := #[.slice Ao27 t489.length co27, .int .i64 t492, .int .i64 x478002_1]) ?_ 2 _ rfl; refine zP11 ?_; refine blk_put (cs := #[.slice Ao27 t489.length co27, .int .i64 x478001_1, .int .i64 x478002_1]) ?_ 1 _ rfl; refine zP11 ?_; refine blk_put (cs := #[.slice Ao24 x478000_1.length co24, .int .i64 x478001_1, .int .i64 x478002_1]) ?_ 0 _ rfl; refine zP11 ?_; refine blk_far ?_ NB477_494.out _; refine zP11 ?_; refine blk_far ?_ NB477_494.out _; refine zP11 ?_; refine blk_far ?_ NB477_494.out _; refine zP11 ?_; exact BK477.out⟩, ⟨zB11_2⟩⟩
   rw [if_neg c13] at H
   have c13b0 : decide (x7_1 < 30) = false := decide_eq_false c13
   clear c13
   by_cases c66 : 0 < (t468.length : Int)
   rotate_left
   ·rw [if_neg c66] at H
    exact absurd H (by simp)
   rw [if_pos c66] at H
   have c66b0 : decide (0 < (t468.length : Int)) = true := decide_eq_true c66
   have c66b1 : decide (0 < t468.length) = true := decide_eq_true (by omega)
   clear c66
   replace H := Option.bind_eq_some_iff.mp H
   obtain ⟨⟨t497, t498, t499⟩, A670, H⟩ := H
   replace H : ((impl_WritesFrom.f k1 t497 ((rd_T29 t468 0).f1)).bind fun t506 => (if t506 = true then (laws_FnGoes.j1 k1 t468 ((rd_T29 t468 0).f1) t497 true) else (laws_FnGoes.j1 k1 t468 ((rd_T29 t468 0).f1) t497 (decide ((t469.length : Int) > 200))))) = some r := H
   have A67 := Aside0.mk A670
   clear A670
   have HC68 := Aside0.mk H
   clear H
   have p496 : 0 ≤ (0 : Int) := (by omega)
   have q496 : 0 < (t468.length : Int) := zA11
   obtain ⟨ad496, A496_0, c496_0, e496, hx496_0, hx496_1, hx496_2, hl496_0, hi496_0⟩ := at_T29 (Kd.S_reads' HO_4.out).2.2 0 p496 q496
   obtain rfl : ad476 = ad496 := (by injection e496)
   obtain ⟨ce496, hce496, hMe496, hcc496⟩ := Kd.S_get HO_4.out z29 0 p496 (by first | exact q496 | exact zA11 | (have e_ := (Kd.S_reads' HO_4.out).1; omega))
   obtain ⟨ve496_0, rfl, ge496_0⟩ := k29_openM hMe496
   have hv496_0 := hcc496 0 _ rfl
   rw [Nat.add_zero] at hv496_0
   replace hv496_0 := Option.some.inj (hv496_0.symm.trans hx496_0)
   rw [hv496_0] at ge496_0
   have HL496_0 := Aside0.mk (show Kd.R (Kd.int .i64) 3 _ _ _ _ ((rd_T29 t468 0).f0) from ge496_0)
   clear hv496_0 ge496_0 hcc496 hce496
   have qi496 : (0 < t468.length) = True := eq_true (by omega)
   (try rw [show ((0 : Int)).toNat = 0 from rfl] at hx496_0)
   (try rw [show 0 * 3 = 0 from rfl] at hx496_0)
   (try rw [Addr.add_zero'] at hx496_0)
   (try rw [show ((0 : Int)).toNat = 0 from rfl] at hx496_1)
   (try rw [show 0 * 3 = 0 from rfl] at hx496_1)
   (try rw [Addr.add_zero'] at hx496_1)
   (try rw [show ((0 : Int)).toNat = 0 from rfl] at hx496_2)
   (try rw [show 0 * 3 = 0 from rfl] at hx496_2)
   (try rw [Addr.add_zero'] at hx496_2)
   have HR496_0 := Aside0.mk hi496_0
   have HC496_0 := Aside0.mk hl496_0
   clear hi496_0 hl496_0
   replace p496 := eq_true p496
   replace q496 := eq_true q496
   go_upto_region 16 with (first | ((with_reducible refine gate_callee (f := 5) rfl ?_); refine goesL_ (some 66) rfl rfl Try.func5 (by kernel_rfl) rfl #[.slice A0 l0.length c0] rfl zT11 ?_; (with_reducible refine (spec_DrawSteps.calls k1 _ _ l0 t497 t498 t499 _ ?side1 ?side2 A67.out).mono ?_); (case side1 => exact zC11 (Kd.C_below HR0.out HB.out)); (case side2 => exact HC0.out); rintro e w69 ⟨v500, v502, v504, rfl, ho0, ho1, ho2, hb⟩; refine ⟨_, rfl, ?_⟩; have n0_ := Aside0.mk (Kd.R_mono (Kd.R_told (Kd.R_told (Kd.R_old (zR11 HO_3.out) hb) (Kd.R_base ho0)) (Kd.R_base ho2)) (fun _ h_ => h_.1)); have n1_ := Aside0.mk (Kd.S_mono (Kd.S_told (Kd.S_told (Kd.S_told (Kd.S_old (zS11 HO_4.out) hb) (Kd.R_base ho0)) (Kd.S_base ho1)) (Kd.R_base ho2)) (fun _ h_ => h_.1)); have n2_ := Aside0.mk (Kd.R_mono (Kd.R_told (Kd.R_told (Kd.R_old (zR11 HO_5.out) hb) (Kd.R_base ho0)) (Kd.R_base ho2)) (fun _ h_ => h_.1)); have n3_ := Aside0.mk (Kd.R_mono (Kd.R_told (Kd.R_told (Kd.R_old (zR11 HO_478000.out) hb) (Kd.R_base ho0)) (Kd.R_base ho2)) (fun _ h_ => h_.1)); have n4_ := Aside0.mk (Kd.R_mono (Kd.R_told (Kd.R_told (Kd.R_old (zR11 HL496_0.out) hb) (Kd.R_base ho0)) (Kd.R_base ho2)) (fun _ h_ => h_.1)); have n5_ := Aside0.mk (Kd.R_lower (Kd.R_new' (Kd.R_new' (Kd.R_new' (Kd.R_new' ho0 (Kd.R_lt (zR11 HO_3.out))) (Kd.R_lt (zR11 HO_5.out))) (Kd.R_lt (zR11 HO_478000.out))) (Kd.R_lt (zR11 HL496_0.out))) (below_size (zB11_1))); have n6_ := Aside0.mk (Kd.S_lower (Kd.S_newB (Kd.S_new' (Kd.S_new' (Kd.S_new' (Kd.S_new' (Kd.S_new' ho1 (Kd.R_lt (zR11 HO_3.out))) (Kd.S_lt (zS11 HO_4.out))) (Kd.R_lt (zR11 HO_5.out))) (Kd.R_lt (zR11 HO_478000.out))) (Kd.R_lt (zR11 HL496_0.out))) (g := gb477) (o := .cells #[u478000, .int .i64 x478001_1, .int .i64 x478002_1] 29 (0, 0)) (zK11 BK477.out)) (below_size (zB11_1))); have n7_ := Aside0.mk (Kd.R_lower (Kd.R_new' (Kd.R_new' (Kd.R_new' (Kd.R_new' ho2 (Kd.R_lt (zR11 HO_3.out))) (Kd.R_lt (zR11 HO_5.out))) (Kd.R_lt (zR11 HO_478000.out))) (Kd.R_lt (zR11 HL496_0.out))) (below_size (zB11_1))); have n8_ := Aside0.mk (zb11 BK477.out hb); have n9_ := Aside0.mk (Kd.C_below (by repeat (first | (with_reducible exact HR496_0.out) | (with_reducible refine Kd.C_alloc ?_ _) | (with_reducible refine Kd.C_drewN ?_ _) | (with_reducible refine Kd.C_drew ?_) | exact HR496_0.out)) hb); have n10_ := Aside0.mk (below_step (zB11_1) hb); clear HO_3; clear HO_4; clear HO_5; clear HO_478000; clear HL496_0; clear BK477; clear HR496_0; clear HB; have HO_3 := n0_; have HO_4 := n1_; have HO_5 := n2_; have HO_478000 := n3_; have HL496_0 := n4_; have HO501 := n5_; have HO503 := n6_; have HO505 := n7_; have BK477 := n8_; have HR496_0 := n9_; have HB := n10_; clear n0_ n1_ n2_ n3_ n4_ n5_ n6_ n7_ n8_ n9_ n10_; (try clear hb); (try clear hb2); (try clear hk); (try clear hi); (try clear ho0); (try clear ho1); (try clear ho2)))
   (try simp only [Act.put, List.setIfInBounds_toArray, List.set_cons_zero, List.set_cons_succ])
   go_cut [77] (fun v77 wc => ∃ (kq : Nat) (x77_67 : Bool), v77 = .bool x77_67 ∧ Aside0 (laws_FnGoes.j1 kq t468 ((rd_T29 t468 0).f1) t497 x77_67 = some r) ∧ Aside0 (kq ≤ k1) ∧ Aside0 (Kd.S k29 29 wc w.heap.size (fun k_ => some k_ ≠ (v500 : Value).ownBlock ∧ some k_ ≠ (z_ : Value).ownBlock ∧ k_ ≠ gb477) (.slice (some ad476) t468.length co8) t468) ∧ Aside0 (Kd.R (Kd.int .i64) 3 wc w.heap.size (fun k_ => some k_ ≠ (u478000 : Value).ownBlock) v500 t497) ∧ Aside0 (Kd.R (Kd.int .i64) 3 wc w.heap.size (fun k_ => some k_ ≠ (v500 : Value).ownBlock) u478000 x478000_1) ∧ Aside0 (wc.heap[gb477]? = some (.cells #[u478000, .int .i64 x478001_1, .int .i64 x478002_1] 29 (0, 0))) ∧ Aside0 (Kd.C (Kd.int .i64) wc A496_0 ((rd_T29 t468 0).f0).length ((rd_T29 t468 0).f0)) ∧ Aside0 (Below w.heap.size w wc))
   case first =>
    have H := HC68.out
    clear HC68
    replace H := Option.bind_eq_some_iff.mp H
    obtain ⟨t506, A700, H⟩ := H
    replace H : (if t506 = true then (laws_FnGoes.j1 k1 t468 ((rd_T29 t468 0).f1) t497 true) else (laws_FnGoes.j1 k1 t468 ((rd_T29 t468 0).f1) t497 (decide ((t469.length : Int) > 200)))) = some r := H
    have A70 := Aside0.mk A700
    clear A700
    by_cases c71 : t506 = true
    ·subst c71
     have H1 : (laws_FnGoes.j1 k1 t468 ((rd_T29 t468 0).f1) t497 true) = some r := by rw [if_pos rfl] at H; exact H
     clear H
     have H := H1
     clear H1
     have H' := Aside0.mk H
     clear H
     obtain ⟨Ao72, co72, eo72⟩ := Kd.R_slice HO501.out
     subst eo72
     go_wp2_with (first | ((with_reducible refine gate_callee (f := 9) rfl ?_); refine goesL_ (some 72) rfl rfl Try.func9 (by kernel_rfl) rfl #[.slice Ao72 t497.length co72, .int .i64 ((rd_T29 t468 0).f1)] rfl zT11 ?_; (with_reducible refine (impl_WritesFrom.calls k1 _ _ t497 ((rd_T29 t468 0).f1) true _ ?side1 ?side2 A70.out).mono ?_); (case side1 => exact zC11 (Kd.R_reads' HO501.out).2.2); (case side2 => exact (Kd.R_reads' HO501.out).2.1); rintro e w73 ⟨rfl, hb⟩; refine ⟨_, rfl, ?_⟩; have n0_ := Aside0.mk (Kd.R_below (zR11 HO_3.out) hb); have n1_ := Aside0.mk (Kd.S_below (zS11 HO_4.out) hb); have n2_ := Aside0.mk (Kd.R_below (zR11 HO_5.out) hb); have n3_ := Aside0.mk (Kd.R_below (zR11 HO_478000.out) hb); have n4_ := Aside0.mk (Kd.R_below (zR11 HL496_0.out) hb); have n5_ := Aside0.mk (Kd.R_below (zR11 HO501.out) hb); have n6_ := Aside0.mk (Kd.S_below (zS11 HO503.out) hb); have n7_ := Aside0.mk (Kd.R_below (zR11 HO505.out) hb); have n8_ := Aside0.mk (zb11 BK477.out hb); have n9_ := Aside0.mk (Kd.C_below (by repeat (first | (with_reducible exact HR496_0.out) | (with_reducible refine Kd.C_alloc ?_ _) | (with_reducible refine Kd.C_drewN ?_ _) | (with_reducible refine Kd.C_drew ?_) | exact HR496_0.out)) hb); have n10_ := Aside0.mk (below_step (zB11_1) hb); clear HO_3; clear HO_4; clear HO_5; clear HO_478000; clear HL496_0; clear HO501; clear HO503; clear HO505; clear BK477; clear HR496_0; clear HB; have HO_3 := n0_; have HO_4 := n1_; have HO_5 := n2_; have HO_478000 := n3_; have HL496_0 := n4_; have HO501 := n5_; have HO503 := n6_; have HO505 := n7_; have BK477 := n8_; have HR496_0 := n9_; have HB := n10_; clear n0_ n1_ n2_ n3_ n4_ n5_ n6_ n7_ n8_ n9_ n10_; (try clear hb); (try clear hb2); (try clear hk); (try clear hi)))
     go_meet
     case rel => exact ⟨_, (true), (by first | rfl | (simp; done) | (simp [*]; done)), H', ⟨by have := HK1.out; first | omega | exact Nat.le_refl _⟩, ⟨by (with_reducible repeat (first | apply Kd.S_alloc | apply Kd.S_drewN | apply Kd.S_drew)); exact Kd.S_mono HO_4.out (fun _ hk => ⟨hk.1.1.2, ⟨hk.1.1.1.2.2.1, hk.1.1.1.2.2.2⟩⟩)⟩, ⟨by (with_reducible repeat (first | apply Kd.R_alloc | apply Kd.R_drewN | apply Kd.R_drew)); exact Kd.R_mono HO501.out (fun _ hk => hk.1.2)⟩, ⟨by (with_reducible repeat (first | apply Kd.R_alloc | apply Kd.R_drewN | apply Kd.R_drew)); exact Kd.R_mono HO_478000.out (fun _ hk => hk.1.2)⟩, ⟨zK11 BK477.out⟩, ⟨by repeat (first | (with_reducible exact HR496_0.out) | (with_reducible refine Kd.C_alloc ?_ _) | (with_reducible refine Kd.C_drewN ?_ _) | (with_reducible refine Kd.C_drew ?_) | exact HR496_0.out)⟩, ⟨zB11_1⟩⟩
    replace c71 := Bool.eq_false_iff.mpr c71
    subst c71
    have H1 : (laws_FnGoes.j1 k1 t468 ((rd_T29 t468 0).f1) t497 (decide ((t469.length : Int) > 200))) = some r := by rw [if_neg (show ¬ (false = true) by decide)] at H; exact H
    clear H
    have H := H1
    clear H1
    have H' := Aside0.mk H
    clear H
    obtain ⟨Ao74, co74, eo74⟩ := Kd.R_slice HO501.out
    subst eo74
    go_wp2_with (first | ((with_reducible refine gate_callee (f := 9) rfl ?_); refine goesL_ (some 72) rfl rfl Try.func9 (by kernel_rfl) rfl #[.slice Ao74 t497.length co74, .int .i64 ((rd_T29 t468 0).f1)] rfl zT11 ?_; (with_reducible refine (impl_WritesFrom.calls k1 _ _ t497 ((rd_T29 t468 0).f1) false _ ?side1 ?side2 A70.out).mono ?_); (case side1 => exact zC11 (Kd.R_reads' HO501.out).2.2); (case side2 => exact (Kd.R_reads' HO501.out).2.1); rintro e w75 ⟨rfl, hb⟩; refine ⟨_, rfl, ?_⟩; have n0_ := Aside0.mk (Kd.R_below (zR11 HO_3.out) hb); have n1_ := Aside0.mk (Kd.S_below (zS11 HO_4.out) hb); have n2_ := Aside0.mk (Kd.R_below (zR11 HO_5.out) hb); have n3_ := Aside0.mk (Kd.R_below (zR11 HO_478000.out) hb); have n4_ := Aside0.mk (Kd.R_below (zR11 HL496_0.out) hb); have n5_ := Aside0.mk (Kd.R_below (zR11 HO501.out) hb); have n6_ := Aside0.mk (Kd.S_below (zS11 HO503.out) hb); have n7_ := Aside0.mk (Kd.R_below (zR11 HO505.out) hb); have n8_ := Aside0.mk (zb11 BK477.out hb); have n9_ := Aside0.mk (Kd.C_below (by repeat (first | (with_reducible exact HR496_0.out) | (with_reducible refine Kd.C_alloc ?_ _) | (with_reducible refine Kd.C_drewN ?_ _) | (with_reducible refine Kd.C_drew ?_) | exact HR496_0.out)) hb); have n10_ := Aside0.mk (below_step (zB11_1) hb); clear HO_3; clear HO_4; clear HO_5; clear HO_478000; clear HL496_0; clear HO501; clear HO503; clear HO505; clear BK477; clear HR496_0; clear HB; have HO_3 := n0_; have HO_4 := n1_; have HO_5 := n2_; have HO_478000 := n3_; have HL496_0 := n4_; have HO501 := n5_; have HO503 := n6_; have HO505 := n7_; have BK477 := n8_; have HR496_0 := n9_; have HB := n10_; clear n0_ n1_ n2_ n3_ n4_ n5_ n6_ n7_ n8_ n9_ n10_; (try clear hb); (try clear hb2); (try clear hk); (try clear hi); obtain ⟨Ao76, co76, eo76⟩ := Kd.R_slice HO_5.out; subst eo76))
    go_meet
    case rel => exact ⟨_, (decide ((t469.length : Int) > 200)), (by first | rfl | (simp; done) | (simp [*]; done)), H', ⟨by have := HK1.out; first | omega | exact Nat.le_refl _⟩, ⟨by (with_reducible repeat (first | apply Kd.S_alloc | apply Kd.S_drewN | apply Kd.S_drew)); exact Kd.S_mono HO_4.out (fun _ hk => ⟨hk.1.1.2, ⟨hk.1.1.1.2.2.1, hk.1.1.1.2.2.2⟩⟩)⟩, ⟨by (with_reducible repeat (first | apply Kd.R_alloc | apply Kd.R_drewN | apply Kd.R_drew)); exact Kd.R_mono HO501.out (fun _ hk => hk.1.2)⟩, ⟨by (with_reducible repeat (first | apply Kd.R_alloc | apply Kd.R_drewN | apply Kd.R_drew)); exact Kd.R_mono HO_478000.out (fun _ hk => hk.1.2)⟩, ⟨zK11 BK477.out⟩, ⟨by repeat (first | (with_reducible exact HR496_0.out) | (with_reducible refine Kd.C_alloc ?_ _) | (with_reducible refine Kd.C_drewN ?_ _) | (with_reducible refine Kd.C_drew ?_) | exact HR496_0.out)⟩, ⟨zB11_1⟩⟩
   case rest =>
    clear HC68
    try clear c1
    try clear c2
    try clear p2
    try clear c3
    try clear c4
    try clear p4
    try clear q4
    try clear hx4
    try clear qi4
    try clear c5
    try clear c5b0
    try clear c5b1
    try clear c6
    try clear p6
    try clear c7
    try clear c9
    try clear c13
    try clear c13b0
    try clear c16
    try clear c16b0
    try clear c16b1
    try clear c17
    try clear c17b0
    try clear c17b1
    try clear c19
    try clear c22
    try clear c28
    try clear c40
    try clear c47
    try clear p47
    try clear q47
    try clear hx47
    try clear qi47
    try clear c49
    try clear p49
    try clear q49
    try clear hx49
    try clear qi49
    try clear c52
    try clear c63
    try clear p64
    try clear c66
    try clear c66b0
    try clear c66b1
    try clear c71
    try clear hcz12_0
    try clear hcz12_1
    try clear hcz12_2
    try clear hcz20_0
    try clear hcz20_1
    try clear hcz20_2
    try clear hcz23_0
    try clear hcz23_1
    try clear hcz23_2
    try clear hcz29_0
    try clear hcz29_1
    try clear hcz29_2
    try clear hcz30_0
    try clear hcz30_1
    try clear hcz30_2
    try clear hcz32_0
    try clear hcz32_1
    try clear hcz32_2
    try clear hcz35_0
    try clear hcz35_1
    try clear hcz35_2
    try clear hcz41_0
    try clear hcz41_1
    try clear hcz41_2
    try clear hcz42_0
    try clear hcz42_1
    try clear hcz42_2
    try clear hcz44_0
    try clear hcz44_1
    try clear hcz44_2
    try clear hcz47_0
    try clear hcz47_1
    try clear hcz47_2
    try clear hcz53_0
    try clear hcz53_1
    try clear hcz53_2
    try clear hcz54_0
    try clear hcz54_1
    try clear hcz54_2
    try clear hcz55_0
    try clear hcz55_1
    try clear hcz55_2
    try clear hcz58_0
    try clear hcz58_1
    try clear hcz58_2
    try clear hcz64_0
    try clear hcz64_1
    try clear hcz64_2
    try clear hcz65_0
    try clear hcz65_1
    try clear hcz65_2
    try clear hfz12_0
    try clear hfz12_1
    try clear hfz12_2
    try clear hfz20_0
    try clear hfz20_1
    try clear hfz20_2
    try clear hfz23_0
    try clear hfz23_1
    try clear hfz23_2
    try clear hfz29_0
    try clear hfz29_1
    try clear hfz29_2
    try clear hfz30_0
    try clear hfz30_1
    try clear hfz30_2
    try clear hfz32_0
    try clear hfz32_1
    try clear hfz32_2
    try clear hfz35_0
    try clear hfz35_1
    try clear hfz35_2
    try clear hfz41_0
    try clear hfz41_1
    try clear hfz41_2
    try clear hfz42_0
    try clear hfz42_1
    try clear hfz42_2
    try clear hfz44_0
    try clear hfz44_1
    try clear hfz44_2
    try clear hfz47_0
    try clear hfz47_1
    try clear hfz47_2
    try clear hfz53_0
    try clear hfz53_1
    try clear hfz53_2
    try clear hfz54_0
    try clear hfz54_1
    try clear hfz54_2
    try clear hfz55_0
    try clear hfz55_1
    try clear hfz55_2
    try clear hfz58_0
    try clear hfz58_1
    try clear hfz58_2
    try clear hfz64_0
    try clear hfz64_1
    try clear hfz64_2
    try clear hfz65_0
    try clear hfz65_1
    try clear hfz65_2
    try clear hx476_0
    try clear hx476_1
    try clear hx476_2
    try clear hx496_0
    try clear hx496_1
    try clear hx496_2
    try clear p2
    try clear p4
    try clear p476
    try clear p496
    try clear q4
    try clear q476
    try clear q496
    obtain ⟨kq, x77_67, rfl, HA, HJ67, HO_4, HO_12, HO_478000, BK477, HR496_0, HB⟩ := hcut
    cases kq with
    | zero => exact absurd HA.out (by simp [laws_FnGoes.j1])
    | succ kj67 =>
     have H := HA.out
     clear HA
     simp only [laws_FnGoes.j1] at H
     by_cases c77 : x77_67 = true
     ·subst c77
      have H1 : (some true) = some r := by rw [if_pos rfl] at H; exact H
      clear H
      have H := H1
      clear H1
      obtain rfl := Option.some.inj H
      go_wp2
      go_ret
      exact ⟨zE11, zB11_1⟩
     replace c77 := Bool.eq_false_iff.mpr c77
     subst c77
     have H1 : (if 0 < (t468.length : Int) then ((impl_copyHart.f ((rd_T29 t468 0).f0) ((rd_T29 t468 0).f1) ((rd_T29 t468 0).f2)).bind fun bt509 => ((impl_ReachOf.f kj67 t497 ((rd_T29 t468 0).f1)).bind fun t514 => (laws_FnGoes.l1 kj67 t497 t514 0 bt509.1 bt509.2.1 bt509.2.2))) else (none)) = some r := by rw [if_neg (show ¬ (false = true) by decide)] at H; exact H
     clear H
     have H := H1
     clear H1
     by_cases c78 : 0 < (t468.length : Int)
     rotate_left
     ·rw [if_neg c78] at H
      exact absurd H (by simp)
     rw [if_pos c78] at H
     have c78b0 : decide (0 < (t468.length : Int)) = true := decide_eq_true c78
     have c78b1 : decide (0 < t468.length) = true := decide_eq_true (by omega)
     clear c78
     replace H := Option.bind_eq_some_iff.mp H
     obtain ⟨⟨t509, t512, t513⟩, A790, H⟩ := H
     replace H : ((impl_ReachOf.f kj67 t497 ((rd_T29 t468 0).f1)).bind fun t514 => (laws_FnGoes.l1 kj67 t497 t514 0 t509 t512 t513)) = some r := H
     have A79 := Aside0.mk A790
     clear A790
     replace H := Option.bind_eq_some_iff.mp H
     obtain ⟨t514, A800, H⟩ := H
     replace H : (laws_FnGoes.l1 kj67 t497 t514 0 t509 t512 t513) = some r := H
     have A80 := Aside0.mk A800
     clear A800
     have H' := Aside0.mk H
     clear H
     have p507 : 0 ≤ (0 : Int) := (by omega)
     have q507 : 0 < (t468.length : Int) := zA11
     obtain ⟨ad507, A507_0, c507_0, e507, hx507_0, hx507_1, hx507_2, hl507_0, hi507_0⟩ := at_T29 (Kd.S_reads' HO_4.out).2.2 0 p507 q507
     obtain rfl : ad476 = ad507 := (by injection e507)
     obtain ⟨ce507, hce507, hMe507, hcc507⟩ := Kd.S_get HO_4.out z29 0 p507 (by first | exact q507 | exact zA11 | (have e_ := (Kd.S_reads' HO_4.out).1; omega))
     obtain ⟨ve507_0, rfl, ge507_0⟩ := k29_openM hMe507
     have hv507_0 := hcc507 0 _ rfl
     rw [Nat.add_zero] at hv507_0
     replace hv507_0 := Option.some.inj (hv507_0.symm.trans hx507_0)
     rw [hv507_0] at ge507_0
     have HL507_0 := Aside0.mk (show Kd.R (Kd.int .i64) 3 _ _ _ _ ((rd_T29 t468 0).f0) from ge507_0)
     clear hv507_0 ge507_0 hcc507 hce507
     have qi507 : (0 < t468.length) = True := eq_true (by omega)
     (try rw [show ((0 : Int)).toNat = 0 from rfl] at hx507_0)
     (try rw [show 0 * 3 = 0 from rfl] at hx507_0)
     (try rw [Addr.add_zero'] at hx507_0)
     (try rw [show ((0 : Int)).toNat = 0 from rfl] at hx507_1)
     (try rw [show 0 * 3 = 0 from rfl] at hx507_1)
     (try rw [Addr.add_zero'] at hx507_1)
     (try rw [show ((0 : Int)).toNat = 0 from rfl] at hx507_2)
     (try rw [show 0 * 3 = 0 from rfl] at hx507_2)
     (try rw [Addr.add_zero'] at hx507_2)
     have HR507_0 := Aside0.mk hi507_0
     have HC507_0 := Aside0.mk hl507_0
     clear hi507_0 hl507_0
     replace p507 := eq_true p507
     replace q507 := eq_true q507
     obtain ⟨e0_, e1_, e2_⟩ := copyHart_eq A79.out
     rw [← e0_] at hx507_0 HL507_0
     rw [← e1_] at hx507_1
     rw [← e2_] at hx507_2
     clear e0_ e1_ e2_
     go_wp2_with (first | ((with_reducible refine gate_dst (N := 15) rfl ?_); (try (refine gate_guard (by rfl) ?_; dsimp only)); refine box_event ?hg (N := 15) ?hd (cs := #[.slice none 0 0, .int .i64 0, .int .i64 0]) (t := 29) ?hr ?_; (case hd => rfl); (case hg => rfl); (case hr => first | (go_simp; done) | (go_simp; rfl)); intro gb508 hg w81 hbox hb; have n0_ := Aside0.mk (Kd.S_below (Kd.S_elderB (zS11 HO_4.out) gb508 (Nat.le_of_eq hg.symm)) hb); have n1_ := Aside0.mk (Kd.R_below (zR11 HO_12.out) hb); have n2_ := Aside0.mk (Kd.R_below (zR11 HO_478000.out) hb); have n3_ := Aside0.mk (Kd.R_below (zR11 HL507_0.out) hb); have n4_ := Aside0.mk (zb11 BK477.out hb); have n5_ := Aside0.mk (Kd.C_below (by repeat (first | (with_reducible exact HR496_0.out) | (with_reducible refine Kd.C_alloc ?_ _) | (with_reducible refine Kd.C_drewN ?_ _) | (with_reducible refine Kd.C_drew ?_) | exact HR496_0.out)) hb); have n6_ := Aside0.mk (Kd.C_below (by repeat (first | (with_reducible exact HR507_0.out) | (with_reducible refine Kd.C_alloc ?_ _) | (with_reducible refine Kd.C_drewN ?_ _) | (with_reducible refine Kd.C_drew ?_) | exact HR507_0.out)) hb); have n7_ := Aside0.mk (below_step (zB11_1) hb); have n8_ := Aside0.mk (hbox); have n9_ := Aside0.mk ((by rw [hg]; exact (below_size (zB11_1)) : w.heap.size ≤ gb508)); have n10_ := Aside0.mk ((by rw [hg]; exact (below_size (zB11_1)) : w.heap.size ≤ gb508)); have n11_ := Aside0.mk ((zn11 BK477.out hg : gb477 ≠ gb508)); have n12_ := Aside0.mk ((zm11 BK477.out hg : gb508 ≠ gb477)); clear HO_4; clear HO_12; clear HO_478000; clear HL507_0; clear BK477; clear HR496_0; clear HR507_0; clear HB; have HO_4 := n0_; have HO_12 := n1_; have HO_478000 := n2_; have HL507_0 := n3_; have BK477 := n4_; have HR496_0 := n5_; have HR507_0 := n6_; have HB := n7_; have BK508 := n8_; have GW508 := n9_; have GE508 := n10_; have NB477_508 := n11_; have NB508_477 := n12_; clear n0_ n1_ n2_ n3_ n4_ n5_ n6_ n7_ n8_ n9_ n10_ n11_ n12_; clear hb hbox hg; have m0_ := Aside0.mk (Kd.R_nil (Kd.int .i64) 3 w81 w.heap.size (fun k_ => some k_ ≠ (v500 : Value).ownBlock ∧ some k_ ≠ (.slice A507_0 t509.length c507_0 : Value).ownBlock)); clear HO_478000; have HO_478000 := m0_; clear m0_; have HO511 := Aside0.mk (show Kd.R (Kd.int .i64) 3 w81 w.heap.size (fun k_ => ((True ∧ some k_ ≠ (v500 : Value).ownBlock) ∧ some k_ ≠ (.slice none 0 0 : Value).ownBlock) ∧ True) (.slice A507_0 t509.length c507_0) t509 from Kd.R_mono HL507_0.out (fun _ hk => ⟨⟨⟨trivial, hk.1.1⟩, by simp [Value.ownBlock]⟩, trivial⟩)); have m0_ := Aside0.mk (Kd.R_mono (R_two rfl HO_12.out HO511.out (fun _ hk => hk.1.1.2)) (fun k_ hk => (⟨by simp [Value.ownBlock], hk.2⟩ : some k_ ≠ (.slice none 0 0 : Value).ownBlock ∧ some k_ ≠ (.slice A507_0 t509.length c507_0 : Value).ownBlock))); clear HO_12; have HO_12 := m0_; clear m0_; have m0_ := Aside0.mk (Kd.S_apart_nil HO_4.out); clear HO_4; have HO_4 := m0_; clear m0_; clear HL507_0; have HL507_0 := Aside0.mk (Kd.R_nil (Kd.int .i64) 3 w81 w.heap.size (fun _ => True)); have hnb84 := NB508_477.out; have hnc84 := NB477_508.out; obtain ⟨hcz85_0, hcz85_1, hcz85_2, hfz85_0, hfz85_1, hfz85_2⟩ := zc11_3 (w := w81) BK508.out; obtain ⟨Ao86, co86, eo86⟩ := Kd.R_slice HO_12.out; subst eo86) | ((with_reducible refine gate_callee (f := 10) rfl ?_); refine goesL_ (some 83) rfl rfl Try.func10 (by kernel_rfl) rfl #[.slice Ao86 t497.length co86, .int .i64 ((rd_T29 t468 0).f1)] rfl zT11 ?_; (with_reducible refine (impl_ReachOf.calls kj67 _ _ t497 ((rd_T29 t468 0).f1) t514 _ ?side1 ?side2 A80.out).mono ?_); (case side1 => refine (Kd.R_reads' (e := 3) (base := w.heap.size) (ok := fun k_ => (some k_ ≠ (.slice none 0 0 : Value).ownBlock ∧ some k_ ≠ (.slice A507_0 t509.length c507_0 : Value).ownBlock)) (n := t497.length) (c := co86) ?_).2.2; exact (by (with_reducible repeat (first | apply Kd.R_alloc | apply Kd.R_drewN | apply Kd.R_drew)); exact (Kd.R_mono (Kd.R_far (p := ⟨gb508, 2, none⟩) (Kd.R_far (p := ⟨gb508, 1, none⟩) (Kd.R_far (p := ⟨gb508, 0, none⟩) (Kd.R_types HO_12.out BK508.out (by decide)) (fun _ hk => hk.2) (.slice A507_0 t509.length c507_0)) (fun _ hk => hk.2) (.int .i64 t512)) (fun _ hk => hk.2) (.int .i64 t513)) (fun _ h_ => h_.1)))); (case side2 => exact (Kd.R_reads' HO_12.out).2.1); rintro e w87 ⟨v515, rfl, ho0, hb⟩; refine ⟨_, rfl, ?_⟩; have n0_ := Aside0.mk (Kd.S_elder' (by (with_reducible repeat (first | apply Kd.S_alloc | apply Kd.S_drewN | apply Kd.S_drew)); exact (Kd.S_mono (Kd.S_far (p := ⟨gb508, 2, none⟩) (Kd.S_far (p := ⟨gb508, 1, none⟩) (Kd.S_far (p := ⟨gb508, 0, none⟩) (Kd.S_mono HO_4.out (fun k_ hk => (⟨hk, hk.1.2⟩ : _ ∧ k_ ≠ gb508))) (fun _ hk => hk.2) (.slice A507_0 t509.length c507_0)) (fun _ hk => hk.2) (.int .i64 t512)) (fun _ hk => hk.2) (.int .i64 t513)) (fun _ h_ => h_.1))) (Kd.R_base ho0) hb); have n1_ := Aside0.mk (Kd.R_elder' (by (with_reducible repeat (first | apply Kd.R_alloc | apply Kd.R_drewN | apply Kd.R_drew)); exact (Kd.R_mono (Kd.R_far (p := ⟨gb508, 2, none⟩) (Kd.R_far (p := ⟨gb508, 1, none⟩) (Kd.R_far (p := ⟨gb508, 0, none⟩) (Kd.R_types HO_12.out BK508.out (by decide)) (fun _ hk => hk.2) (.slice A507_0 t509.length c507_0)) (fun _ hk => hk.2) (.int .i64 t512)) (fun _ hk => hk.2) (.int .i64 t513)) (fun _ h_ => h_.1))) (Kd.R_base ho0) hb); have n2_ := Aside0.mk (Kd.R_elder' (by (with_reducible repeat (first | apply Kd.R_alloc | apply Kd.R_drewN | apply Kd.R_drew)); exact (Kd.R_mono (Kd.R_far (p := ⟨gb508, 2, none⟩) (Kd.R_far (p := ⟨gb508, 1, none⟩) (Kd.R_far (p := ⟨gb508, 0, none⟩) (Kd.R_types HO_478000.out BK508.out (by decide)) (fun _ hk => hk.2) (.slice A507_0 t509.length c507_0)) (fun _ hk => hk.2) (.int .i64 t512)) (fun _ hk => hk.2) (.int .i64 t513)) (fun _ h_ => h_.1))) (Kd.R_base ho0) hb); have n3_ := Aside0.mk (Kd.R_elder' (by (with_reducible repeat (first | apply Kd.R_alloc | apply Kd.R_drewN | apply Kd.R_drew)); exact (Kd.R_mono (Kd.R_far (p := ⟨gb508, 2, none⟩) (Kd.R_far (p := ⟨gb508, 1, none⟩) (Kd.R_far (p := ⟨gb508, 0, none⟩) (Kd.R_types HL507_0.out BK508.out (by decide)) (fun _ hk => hk.2) (.slice A507_0 t509.length c507_0)) (fun _ hk => hk.2) (.int .i64 t512)) (fun _ hk => hk.2) (.int .i64 t513)) (fun _ h_ => h_.1))) (Kd.R_base ho0) hb); have n4_ := Aside0.mk (Kd.R_elder' (by (with_reducible repeat (first | apply Kd.R_alloc | apply Kd.R_drewN | apply Kd.R_drew)); exact (Kd.R_mono (Kd.R_far (p := ⟨gb508, 2, none⟩) (Kd.R_far (p := ⟨gb508, 1, none⟩) (Kd.R_far (p := ⟨gb508, 0, none⟩) (Kd.R_types HO511.out BK508.out (by decide)) (fun _ hk => hk.2) (.slice A507_0 t509.length c507_0)) (fun _ hk => hk.2) (.int .i64 t512)) (fun _ hk => hk.2) (.int .i64 t513)) (fun _ h_ => h_.1))) (Kd.R_base ho0) hb); have n5_ := Aside0.mk (Kd.R_lower (Kd.R_new' (Kd.R_new' (Kd.R_new' (Kd.R_new' ho0 (Kd.R_lt (by (with_reducible repeat (first | apply Kd.R_alloc | apply Kd.R_drewN | apply Kd.R_drew)); exact (Kd.R_mono (Kd.R_far (p := ⟨gb508, 2, none⟩) (Kd.R_far (p := ⟨gb508, 1, none⟩) (Kd.R_far (p := ⟨gb508, 0, none⟩) (Kd.R_types HO_12.out BK508.out (by decide)) (fun _ hk => hk.2) (.slice A507_0 t509.length c507_0)) (fun _ hk => hk.2) (.int .i64 t512)) (fun _ hk => hk.2) (.int .i64 t513)) (fun _ h_ => h_.1))))) (Kd.R_lt (by (with_reducible repeat (first | apply Kd.R_alloc | apply Kd.R_drewN | apply Kd.R_drew)); exact (Kd.R_mono (Kd.R_far (p := ⟨gb508, 2, none⟩) (Kd.R_far (p := ⟨gb508, 1, none⟩) (Kd.R_far (p := ⟨gb508, 0, none⟩) (Kd.R_types HO_478000.out BK508.out (by decide)) (fun _ hk => hk.2) (.slice A507_0 t509.length c507_0)) (fun _ hk => hk.2) (.int .i64 t512)) (fun _ hk => hk.2) (.int .i64 t513)) (fun _ h_ => h_.1))))) (Kd.R_lt (by (with_reducible repeat (first | apply Kd.R_alloc | apply Kd.R_drewN | apply Kd.R_drew)); exact (Kd.R_mono (Kd.R_far (p := ⟨gb508, 2, none⟩) (Kd.R_far (p := ⟨gb508, 1, none⟩) (Kd.R_far (p := ⟨gb508, 0, none⟩) (Kd.R_types HL507_0.out BK508.out (by decide)) (fun _ hk => hk.2) (.slice A507_0 t509.length c507_0)) (fun _ hk => hk.2) (.int .i64 t512)) (fun _ hk => hk.2) (.int .i64 t513)) (fun _ h_ => h_.1))))) (Kd.R_lt (by (with_reducible repeat (first | apply Kd.R_alloc | apply Kd.R_drewN | apply Kd.R_drew)); exact (Kd.R_mono (Kd.R_far (p := ⟨gb508, 2, none⟩) (Kd.R_far (p := ⟨gb508, 1, none⟩) (Kd.R_far (p := ⟨gb508, 0, none⟩) (Kd.R_types HO511.out BK508.out (by decide)) (fun _ hk => hk.2) (.slice A507_0 t509.length c507_0)) (fun _ hk => hk.2) (.int .i64 t512)) (fun _ hk => hk.2) (.int .i64 t513)) (fun _ h_ => h_.1))))) (below_size (zB11_3))); have n6_ := Aside0.mk (blk_below (g := gb477) (o := .cells #[u478000, .int .i64 x478001_1, .int .i64 x478002_1] 29 (0, 0)) (by refine zP11 ?_; refine blk_far ?_ NB477_508.out _; refine zP11 ?_; refine blk_far ?_ NB477_508.out _; refine zP11 ?_; refine blk_far ?_ NB477_508.out _; refine zP11 ?_; exact BK477.out) hb); have n7_ := Aside0.mk (Kd.C_below ((Kd.R_reads' (by (with_reducible repeat (first | apply Kd.R_alloc | apply Kd.R_drewN | apply Kd.R_drew)); exact (Kd.R_mono (Kd.R_far (p := ⟨gb508, 2, none⟩) (Kd.R_far (p := ⟨gb508, 1, none⟩) (Kd.R_far (p := ⟨gb508, 0, none⟩) (Kd.R_types HL507_0.out BK508.out (by decide)) (fun _ hk => hk.2) (.slice A507_0 t509.length c507_0)) (fun _ hk => hk.2) (.int .i64 t512)) (fun _ hk => hk.2) (.int .i64 t513)) (fun _ h_ => h_.1)))).2.2) hb); have n8_ := Aside0.mk (blk_below (g := gb508) (o := .cells #[.slice A507_0 t509.length c507_0, .int .i64 t512, .int .i64 t513] 29 (0, 0)) (by refine zP11 ?_; refine blk_put (cs := #[.slice A507_0 t509.length c507_0, .int .i64 t512, .int .i64 0]) ?_ 2 _ rfl; refine zP11 ?_; refine blk_put (cs := #[.slice A507_0 t509.length c507_0, .int .i64 0, .int .i64 0]) ?_ 1 _ rfl; refine zP11 ?_; refine blk_put (cs := #[.slice none 0 0, .int .i64 0, .int .i64 0]) ?_ 0 _ rfl; refine zP11 ?_; exact BK508.out) hb); have n9_ := Aside0.mk (below_step (zB11_3) hb); clear HO_4; clear HO_12; clear HO_478000; clear HL507_0; clear HO511; clear BK477; clear HR507_0; clear BK508; clear HB; have HO_4 := n0_; have HO_12 := n1_; have HO_478000 := n2_; have HL507_0 := n3_; have HO511 := n4_; have HO516 := n5_; have BK477 := n6_; have HR507_0 := n7_; have BK508 := n8_; have HB := n9_; clear n0_ n1_ n2_ n3_ n4_ n5_ n6_ n7_ n8_ n9_; (try clear hb); (try clear hb2); (try clear hk); (try clear hi); (try clear ho0)))
     go_loopg [17] kj67 (fun kq v17 w' => ∃ (x17_3 : Int) (x509000_3 : List Int) (x509001_3 : Int) (x509002_3 : Int) (u509000 : Value), v17 = .int .i64 x17_3 ∧ Aside0 (laws_FnGoes.l1 kq t497 t514 x17_3 x509000_3 x509001_3 x509002_3 = some r) ∧ Aside0 (kq ≤ kj67) ∧ Aside0 (Kd.R (Kd.int .i64) 3 w' w.heap.size (fun k_ => some k_ ≠ (v515 : Value).ownBlock ∧ some k_ ≠ (.slice none 0 0 : Value).ownBlock ∧ some k_ ≠ (u509000 : Value).ownBlock) (.slice Ao86 t497.length co86) t497) ∧ Aside0 (Kd.R (Kd.int .i64) 3 w' w.heap.size (fun k_ => some k_ ≠ ((.slice Ao86 t497.length co86) : Value).ownBlock ∧ some k_ ≠ (.slice none 0 0 : Value).ownBlock ∧ some k_ ≠ (u509000 : Value).ownBlock) v515 t514) ∧ Aside0 (Kd.R (Kd.int .i64) 3 w' w.heap.size (fun k_ => some k_ ≠ ((.slice Ao86 t497.length co86) : Value).ownBlock ∧ some k_ ≠ (v515 : Value).ownBlock ∧ some k_ ≠ (u509000 : Value).ownBlock) (.slice none 0 0) ([] : List Int)) ∧ Aside0 (Kd.R (Kd.int .i64) 3 w' w.heap.size (fun k_ => some k_ ≠ ((.slice Ao86 t497.length co86) : Value).ownBlock ∧ some k_ ≠ (v515 : Value).ownBlock ∧ some k_ ≠ (.slice none 0 0 : Value).ownBlock) u509000 x509000_3) ∧ Aside0 (w'.heap[gb477]? = some (.cells #[u478000, .int .i64 x478001_1, .int .i64 x478002_1] 29 (0, 0))) ∧ Aside0 (w'.heap[gb508]? = some (.cells #[u509000, .int .i64 x509001_3, .int .i64 x509002_3] 29 (0, 0))) ∧ Aside0 (Below w.heap.size w w'))
     case atStart => exact ⟨(0), (t509), (t512), (t513), (.slice A507_0 t509.length c507_0), (by first | rfl | (simp; done) | (simp [*]; done)), H', ⟨Nat.le_refl _⟩, ⟨by (with_reducible repeat (first | apply Kd.R_alloc | apply Kd.R_drewN | apply Kd.R_drew)); exact Kd.R_mono HO_12.out (fun _ hk => ⟨hk.2, ⟨hk.1.1, hk.1.2⟩⟩)⟩, ⟨by (with_reducible repeat (first | apply Kd.R_alloc | apply Kd.R_drewN | apply Kd.R_drew)); exact Kd.R_mono HO516.out (fun _ hk => ⟨hk.1.1.1.2, ⟨hk.1.1.2, hk.2⟩⟩)⟩, ⟨by (with_reducible repeat (first | apply Kd.R_alloc | apply Kd.R_drewN | apply Kd.R_drew)); exact Kd.R_mono HO_478000.out (fun _ hk => ⟨hk.1.1, ⟨hk.2, hk.1.2⟩⟩)⟩, ⟨by (with_reducible repeat (first | apply Kd.R_alloc | apply Kd.R_drewN | apply Kd.R_drew)); exact Kd.R_mono HO511.out (fun _ hk => ⟨hk.1.1.1.2, ⟨hk.2, hk.1.1.2⟩⟩)⟩, ⟨zK11 BK477.out⟩, ⟨zK11 BK508.out⟩, ⟨zB11_3⟩⟩
     case round =>
      clear H'
      try clear c1
      try clear c2
      try clear p2
      try clear c3
      try clear c4
      try clear p4
      try clear q4
      try clear hx4
      try clear qi4
      try clear c5
      try clear c5b0
      try clear c5b1
      try clear p5
      try clear q5
      try clear hx5
      try clear qi5
      try clear c6
      try clear p6
      try clear c7
      try clear c8
      try clear c9
      try clear c10
      try clear c13
      try clear c13b0
      try clear c16
      try clear c16b0
      try clear c16b1
      try clear c17
      try clear c17b0
      try clear c17b1
      try clear c19
      try clear c22
      try clear c28
      try clear c40
      try clear c47
      try clear p47
      try clear q47
      try clear hx47
      try clear qi47
      try clear c49
      try clear p49
      try clear q49
      try clear hx49
      try clear qi49
      try clear c50
      try clear p50
      try clear q50
      try clear hx50
      try clear qi50
      try clear c52
      try clear c63
      try clear p64
      try clear c66
      try clear c66b0
      try clear c66b1
      try clear c71
      try clear c77
      try clear c78
      try clear c78b0
      try clear c78b1
      try clear c84
      try clear hcz12_0
      try clear hcz12_1
      try clear hcz12_2
      try clear hcz20_0
      try clear hcz20_1
      try clear hcz20_2
      try clear hcz23_0
      try clear hcz23_1
      try clear hcz23_2
      try clear hcz29_0
      try clear hcz29_1
      try clear hcz29_2
      try clear hcz30_0
      try clear hcz30_1
      try clear hcz30_2
      try clear hcz32_0
      try clear hcz32_1
      try clear hcz32_2
      try clear hcz35_0
      try clear hcz35_1
      try clear hcz35_2
      try clear hcz41_0
      try clear hcz41_1
      try clear hcz41_2
      try clear hcz42_0
      try clear hcz42_1
      try clear hcz42_2
      try clear hcz44_0
      try clear hcz44_1
      try clear hcz44_2
      try clear hcz47_0
      try clear hcz47_1
      try clear hcz47_2
      try clear hcz53_0
      try clear hcz53_1
      try clear hcz53_2
      try clear hcz54_0
      try clear hcz54_1
      try clear hcz54_2
      try clear hcz55_0
      try clear hcz55_1
      try clear hcz55_2
      try clear hcz58_0
      try clear hcz58_1
      try clear hcz58_2
      try clear hcz64_0
      try clear hcz64_1
      try clear hcz64_2
      try clear hcz65_0
      try clear hcz65_1
      try clear hcz65_2
      try clear hcz85_0
      try clear hcz85_1
      try clear hcz85_2
      try clear hfz12_0
      try clear hfz12_1
      try clear hfz12_2
      try clear hfz20_0
      try clear hfz20_1
      try clear hfz20_2
      try clear hfz23_0
      try clear hfz23_1
      try clear hfz23_2
      try clear hfz29_0
      try clear hfz29_1
      try clear hfz29_2
      try clear hfz30_0
      try clear hfz30_1
      try clear hfz30_2
      try clear hfz32_0
      try clear hfz32_1
      try clear hfz32_2
      try clear hfz35_0
      try clear hfz35_1
      try clear hfz35_2
      try clear hfz41_0
      try clear hfz41_1
      try clear hfz41_2
      try clear hfz42_0
      try clear hfz42_1
      try clear hfz42_2
      try clear hfz44_0
      try clear hfz44_1
      try clear hfz44_2
      try clear hfz47_0
      try clear hfz47_1
      try clear hfz47_2
      try clear hfz53_0
      try clear hfz53_1
      try clear hfz53_2
      try clear hfz54_0
      try clear hfz54_1
      try clear hfz54_2
      try clear hfz55_0
      try clear hfz55_1
      try clear hfz55_2
      try clear hfz58_0
      try clear hfz58_1
      try clear hfz58_2
      try clear hfz64_0
      try clear hfz64_1
      try clear hfz64_2
      try clear hfz65_0
      try clear hfz65_1
      try clear hfz65_2
      try clear hfz85_0
      try clear hfz85_1
      try clear hfz85_2
      try clear hx476_0
      try clear hx476_1
      try clear hx476_2
      try clear hx496_0
      try clear hx496_1
      try clear hx496_2
      try clear hx507_0
      try clear hx507_1
      try clear hx507_2
      try clear p2
      try clear p4
      try clear p47
      try clear p476
      try clear p49
      try clear p496
      try clear p507
      try clear p6
      try clear p64
      try clear q4
      try clear q47
      try clear q476
      try clear q49
      try clear q496
      try clear q507
      obtain ⟨x17_3, x509000_3, x509001_3, x509002_3, u509000, rfl, HA, HK3, HO_12, HO_16, HO_478000, HO_509000, BK477, BK508, HB⟩ := hrel
      cases gk with
      | zero => exact absurd HA.out (by simp [laws_FnGoes.l1])
      | succ k3 =>
       have H := HA.out
       clear HA
       simp only [laws_FnGoes.l1] at H
       by_cases c88 : x17_3 < 30
       rotate_left
       ·rw [if_neg c88] at H
        have c88b0 : decide (x17_3 < 30) = false := decide_eq_false c88
        clear c88
        obtain rfl := Option.some.inj H
        go_wp2
        go_ret
        exact ⟨zE11, zB11_3⟩
       rw [if_pos c88] at H
       have c88b0 : decide (x17_3 < 30) = true := decide_eq_true c88
       clear c88
       replace H := Option.bind_eq_some_iff.mp H
       obtain ⟨t517, A890, H⟩ := H
       replace H : (if t517 = true then ((impl_FlatStep.f k3 t497 x509000_3 x509001_3 x509002_3).bind fun bt518 => (laws_FnGoes.l1 k3 t497 t514 (wrap64 (x17_3 + 1)) bt518.2.1 bt518.2.2.1 bt518.2.2.2)) else (some false)) = some r := H
       have A89 := Aside0.mk A890
       clear A890
       by_cases c90 : t517 = true
       rotate_left
       ·replace c90 := Bool.eq_false_iff.mpr c90
        subst c90
        have H1 : (some false) = some r := by rw [if_neg (show ¬ (false = true) by decide)] at H; exact H
        clear H
        have H := H1
        clear H1
        obtain rfl := Option.some.inj H
        have hnb99 := NB508_477.out
        have hnc99 := NB477_508.out
        obtain ⟨hcz100_0, hcz100_1, hcz100_2, hfz100_0, hfz100_1, hfz100_2⟩ := zc11_3 (w := wr) BK508.out
        obtain ⟨Ao101, co101, eo101⟩ := Kd.R_slice HO_16.out
        subst eo101
        go_wp2_with (first | ((with_reducible refine gate_callee (f := 8) rfl ?_); refine goesL_ (some 91) rfl rfl Try.func8 (by kernel_rfl) rfl #[.slice Ao101 t514.length co101, .int .i64 x509001_3] rfl zT11 ?_; (with_reducible refine (laws_within.calls k3 _ _ t514 x509001_3 false _ ?side1 ?side2 A89.out).mono ?_); (case side1 => exact zC11 (Kd.R_reads' HO_16.out).2.2); (case side2 => exact (Kd.R_reads' HO_16.out).2.1); rintro e w' ⟨rfl, ⟨nd, rfl⟩⟩; refine ⟨_, rfl, ?_⟩))
        go_ret
        exact ⟨zE11, zB11_3⟩
       subst c90
       have H1 : ((impl_FlatStep.f k3 t497 x509000_3 x509001_3 x509002_3).bind fun bt518 => (laws_FnGoes.l1 k3 t497 t514 (wrap64 (x17_3 + 1)) bt518.2.1 bt518.2.2.1 bt518.2.2.2)) = some r := by rw [if_pos rfl] at H; exact H
       clear H
       have H := H1
       clear H1
       replace H := Option.bind_eq_some_iff.mp H
       obtain ⟨⟨t518, t521, t524, t525⟩, A910, H⟩ := H
       replace H : (laws_FnGoes.l1 k3 t497 t514 (wrap64 (x17_3 + 1)) t521 t524 t525) = some r := H
       have A91 := Aside0.mk A910
       clear A910
       have H' := Aside0.mk H
       clear H
       have hnb92 := NB508_477.out
       have hnc92 := NB477_508.out
       obtain ⟨hcz93_0, hcz93_1, hcz93_2, hfz93_0, hfz93_1, hfz93_2⟩ := zc11_3 (w := wr) BK508.out
       obtain ⟨Ao94, co94, eo94⟩ := Kd.R_slice HO_16.out
       subst eo94
       go_wp2_with (first | ((with_reducible refine gate_callee (f := 8) rfl ?_); refine goesL_ (some 91) rfl rfl Try.func8 (by kernel_rfl) rfl #[.slice Ao94 t514.length co94, .int .i64 x509001_3] rfl zT11 ?_; (with_reducible refine (laws_within.calls k3 _ _ t514 x509001_3 true _ ?side1 ?side2 A89.out).mono ?_); (case side1 => exact zC11 (Kd.R_reads' HO_16.out).2.2); (case side2 => exact (Kd.R_reads' HO_16.out).2.1); rintro e w' ⟨rfl, ⟨nd, rfl⟩⟩; refine ⟨_, rfl, ?_⟩; (try (rw [drewN_self wr]; generalize hq_ : World.drewN wr _ = wr; have n0_ : Aside0 (Kd.R (Kd.int .i64) 3 wr w.heap.size (fun k_ => some k_ ≠ (.slice Ao94 t514.length co94 : Value).ownBlock ∧ some k_ ≠ (.slice none 0 0 : Value).ownBlock ∧ some k_ ≠ (u509000 : Value).ownBlock) (.slice Ao86 t497.length co86) t497) := ⟨by rw [← hq_]; exact (zR11 HO_12.out)⟩; have n1_ : Aside0 (Kd.R (Kd.int .i64) 3 wr w.heap.size (fun k_ => some k_ ≠ (.slice Ao86 t497.length co86 : Value).ownBlock ∧ some k_ ≠ (.slice none 0 0 : Value).ownBlock ∧ some k_ ≠ (u509000 : Value).ownBlock) (.slice Ao94 t514.length co94) t514) := ⟨by rw [← hq_]; exact (zR11 HO_16.out)⟩; have n2_ : Aside0 (Kd.R (Kd.int .i64) 3 wr w.heap.size (fun k_ => some k_ ≠ (.slice Ao86 t497.length co86 : Value).ownBlock ∧ some k_ ≠ (.slice Ao94 t514.length co94 : Value).ownBlock ∧ some k_ ≠ (u509000 : Value).ownBlock) (.slice none 0 0) ([] : List Int)) := ⟨by rw [← hq_]; exact (zR11 HO_478000.out)⟩; have n3_ : Aside0 (Kd.R (Kd.int .i64) 3 wr w.heap.size (fun k_ => some k_ ≠ (.slice Ao86 t497.length co86 : Value).ownBlock ∧ some k_ ≠ (.slice Ao94 t514.length co94 : Value).ownBlock ∧ some k_ ≠ (.slice none 0 0 : Value).ownBlock) u509000 x509000_3) := ⟨by rw [← hq_]; exact (zR11 HO_509000.out)⟩; have n4_ : Aside0 (wr.heap[gb477]? = some (.cells #[u478000, .int .i64 x478001_1, .int .i64 x478002_1] 29 (0, 0))) := ⟨by rw [← hq_]; exact (zK11 BK477.out)⟩; have n5_ : Aside0 (wr.heap[gb508]? = some (.cells #[u509000, .int .i64 x509001_3, .int .i64 x509002_3] 29 (0, 0))) := ⟨by rw [← hq_]; exact (zK11 BK508.out)⟩; have n6_ : Aside0 (Below w.heap.size w wr) := ⟨by rw [← hq_]; exact (zB11_3)⟩; clear HO_12 HO_16 HO_478000 HO_509000 BK477 BK508 HB hq_; have HO_12 := n0_; have HO_16 := n1_; have HO_478000 := n2_; have HO_509000 := n3_; have BK477 := n4_; have BK508 := n5_; have HB := n6_; clear n0_ n1_ n2_ n3_ n4_ n5_ n6_)); obtain ⟨Ao95, co95, eo95⟩ := Kd.R_slice HO_509000.out; subst eo95; obtain ⟨hcy_0, hcy_1, hcy_2, hfy_0, hfy_1, hfy_2⟩ := zc11_3 (w := wr) BK508.out) | ((with_reducible refine gate_callee (f := 7) rfl ?_); refine goesL_ (some 96) rfl rfl Try.func7 (by kernel_rfl) rfl #[.slice Ao86 t497.length co86, .agg #[.slice Ao95 x509000_3.length co95, .int .i64 x509001_3, .int .i64 x509002_3]] rfl zT11 ?_; (with_reducible refine (impl_FlatStep.calls k3 _ _ t497 _ _ x509000_3 x509001_3 x509002_3 t518 t521 t524 t525 _ ?side1 ?side2 ?side3 ?side4 A91.out).mono ?_); (case side1 => exact zC11 (Kd.R_reads' HO_12.out).2.2); (case side2 => exact (Kd.R_reads' HO_12.out).2.1); (case side3 => exact zC11 (Kd.R_reads' HO_509000.out).2.2); (case side4 => exact (Kd.R_reads' HO_509000.out).2.1); rintro e w96 ⟨v519, v522, rfl, ho0, ho1, hb⟩; refine ⟨_, rfl, ?_⟩; have n0_ := Aside0.mk (Kd.R_mono (Kd.R_told (Kd.R_told (Kd.R_old (zR11 HO_12.out) hb) (Kd.R_base ho0)) (Kd.R_base ho1)) (fun _ h_ => h_.1)); have n1_ := Aside0.mk (Kd.R_mono (Kd.R_told (Kd.R_told (Kd.R_old (zR11 HO_16.out) hb) (Kd.R_base ho0)) (Kd.R_base ho1)) (fun _ h_ => h_.1)); have n2_ := Aside0.mk (Kd.R_mono (Kd.R_told (Kd.R_told (Kd.R_old (zR11 HO_478000.out) hb) (Kd.R_base ho0)) (Kd.R_base ho1)) (fun _ h_ => h_.1)); have n3_ := Aside0.mk (Kd.R_mono (Kd.R_told (Kd.R_told (Kd.R_old (zR11 HO_509000.out) hb) (Kd.R_base ho0)) (Kd.R_base ho1)) (fun _ h_ => h_.1)); have n4_ := Aside0.mk (Kd.R_lower (Kd.R_new' (Kd.R_new' (Kd.R_new' (Kd.R_new' ho0 (Kd.R_lt (zR11 HO_12.out))) (Kd.R_lt (zR11 HO_16.out))) (Kd.R_lt (zR11 HO_478000.out))) (Kd.R_lt (zR11 HO_509000.out))) (below_size (zB11_3))); have n5_ := Aside0.mk (Kd.R_lower (Kd.R_new' (Kd.R_new' (Kd.R_new' (Kd.R_new' ho1 (Kd.R_lt (zR11 HO_12.out))) (Kd.R_lt (zR11 HO_16.out))) (Kd.R_lt (zR11 HO_478000.out))) (Kd.R_lt (zR11 HO_509000.out))) (below_size (zB11_3))); have n6_ := Aside0.mk (zb11 BK477.out hb); have n7_ := Aside0.mk (zb11 BK508.out hb); have n8_ := Aside0.mk (below_step (zB11_3) hb); clear HO_12; clear HO_16; clear HO_478000; clear HO_509000; clear BK477; clear BK508; clear HB; have HO_12 := n0_; have HO_16 := n1_; have HO_478000 := n2_; have HO_509000 := n3_; have HO520 := n4_; have HO523 := n5_; have BK477 := n6_; have BK508 := n7_; have HB := n8_; clear n0_ n1_ n2_ n3_ n4_ n5_ n6_ n7_ n8_; (try clear hb); (try clear hb2); (try clear hk); (try clear hi); (try clear ho0); (try clear ho1); obtain ⟨Ao97, co97, eo97⟩ := Kd.R_slice HO523.out; subst eo97; obtain ⟨hcz98_0, hcz98_1, hcz98_2, hfz98_0, hfz98_1, hfz98_2⟩ := zc11_3 (w := w96) BK508.out))
       go_roundg k3
       case measure => have := HK1.out; have := HJ67.out; have := HK3.out; omega
       case rel => exact ⟨(wrap64 (x17_3 + 1)), (t521), (t524), (t525), (.slice Ao97 t521.length co97), (by first | rfl | (simp; done) | (simp [*]; done)), H', ⟨by have := HK1.out; have := HJ67.out; have := HK3.out; omega⟩, ⟨by (with_reducible repeat (first | apply Kd.R_alloc | apply Kd.R_drewN | apply Kd.R_drew)); exact Kd.R_mono (Kd.R_far (p := ⟨gb508, 2, none⟩) (Kd.R_far (p := ⟨gb508, 1, none⟩) (Kd.R_far (p := ⟨gb508, 0, none⟩) (Kd.R_types HO_12.out BK508.out (by decide)) (fun _ hk => hk.2) (.slice Ao97 t521.length co97)) (fun _ hk => hk.2) (.int .i64 t524)) (fun _ hk => hk.2) (.int .i64 t525)) (fun _ hk => ⟨hk.1.1.1.1, ⟨hk.1.1.1.2.1, hk.1.2⟩⟩)⟩, ⟨by (with_reducible repeat (first | apply Kd.R_alloc | apply Kd.R_drewN | apply Kd.R_drew)); exact Kd.R_mono (Kd.R_far (p := ⟨gb508, 2, none⟩) (Kd.R_far (p := ⟨gb508, 1, none⟩) (Kd.R_far (p := ⟨gb508, 0, none⟩) (Kd.R_types HO_16.out BK508.out (by decide)) (fun _ hk => hk.2) (.slice Ao97 t521.length co97)) (fun _ hk => hk.2) (.int .i64 t524)) (fun _ hk => hk.2) (.int .i64 t525)) (fun _ hk => ⟨hk.1.1.1.1, ⟨hk.1.1.1.2.1, hk.1.2⟩⟩)⟩, ⟨by (with_reducible repeat (first | apply Kd.R_alloc | apply Kd.R_drewN | apply Kd.R_drew)); exact Kd.R_mono (Kd.R_far (p := ⟨gb508, 2, none⟩) (Kd.R_far (p := ⟨gb508, 1, none⟩) (Kd.R_far (p := ⟨gb508, 0, none⟩) (Kd.R_types HO_478000.out BK508.out (by decide)) (fun _ hk => hk.2) (.slice Ao97 t521.length co97)) (fun _ hk => hk.2) (.int .i64 t524)) (fun _ hk => hk.2) (.int .i64 t525)) (fun _ hk => ⟨hk.1.1.1.1, ⟨hk.1.1.1.2.1, hk.1.2⟩⟩)⟩, ⟨by (with_reducible repeat (first | apply Kd.R_alloc | apply Kd.R_drewN | apply Kd.R_drew)); exact Kd.R_mono (Kd.R_far (p := ⟨gb508, 2, none⟩) (Kd.R_far (p := ⟨gb508, 1, none⟩) (Kd.R_far (p := ⟨gb508, 0, none⟩) (Kd.R_types HO523.out BK508.out (by decide)) (fun _ hk => hk.2) (.slice Ao97 t521.length co97)) (fun _ hk => hk.2) (.int .i64 t524)) (fun _ hk => hk.2) (.int .i64 t525)) (fun _ hk => ⟨hk.1.1.1.1.2, ⟨hk.1.1.1.2, hk.1.1.2⟩⟩)⟩, ⟨by refine zP11 ?_; refine blk_far ?_ NB477_508.out _; refine zP11 ?_; refine blk_far ?_ NB477_508.out _; refine zP11 ?_; refine blk_far ?_ NB477_508.out _; refine zP11 ?_; exact BK477.out⟩, ⟨by refine zP11 ?_; refine blk_put (cs := #[.slice Ao97 t521.length co97, .int .i64 t524, .int .i64 x509002_3]) ?_ 2 _ rfl; refine zP11 ?_; refine blk_put (cs := #[.slice Ao97 t521.length co97, .int .i64 x509001_3, .int .i64 x509002_3]) ?_ 1 _ rfl; refine zP11 ?_; refine blk_put (cs := #[.slice Ao95 x509000_3.length co95, .int .i64 x509001_3, .int .i64 x509002_3]) ?_ 0 _ rfl; refine zP11 ?_; exact BK508.out⟩, ⟨zB11_3⟩⟩

/-- THE ONE PURE STATEMENT of laws_FnGoes: yours. -/
def laws_FnGoes.Pure : Prop := ∀ (l0 : List Int), l0.length ≤ maxLen → l0.length * 1 ≤ 140737488351232 → (∀ x ∈ l0, (Lit.int .u8 x).wf = true) → ∃ k, laws_FnGoes.f k l0 = some true
theorem laws_FnGoes.walk (P : laws_FnGoes.Pure) (a0 : Option Addr) (len0 cap0 : Nat) (z0 : List Int) (w : World) (w0 : (a0 = none ∧ len0 = 0 ∧ cap0 = 0 ∧ z0 = []) ∨ ∃ x, a0 = some x ∧ len0 ≤ cap0 ∧ cap0 ≤ maxLen ∧ z0.length = cap0 ∧ (∀ i, i < z0.length → w.cell? (x.add i) = some (.int .u8 (z0.getD i 0))) ∧ ∀ n ∈ z0, (Lit.int .u8 n).wf = true) (y0 : len0 * 1 ≤ 140737488351232) :
  Calls Try.prog 3 #[.slice a0 len0 cap0] w fun e w' => e = .returned (.bool true) ∧ Below w.heap.size w w' := by
 obtain ⟨l0, rfl, hr0, hm0, hw0, hc0⟩ := ReadsInt.ofRowC w0
 obtain ⟨k, h⟩ := P l0 hm0 y0 hw0
 refine (laws_FnGoes.calls k _ _ l0 true w (Kd.C_of_reads (d := (0 : Int)) (h1 := fun _ => rfl) hr0) hc0 h).mono ?_
 rintro e w' ⟨rfl, hd⟩
 exact ⟨rfl, hd⟩

end Go.Proofs.Ytmfhfnpinmlloaa.PFnGoes
