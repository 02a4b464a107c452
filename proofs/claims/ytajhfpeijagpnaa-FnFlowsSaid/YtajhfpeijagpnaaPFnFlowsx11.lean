-- made by wip/tools/myprint.py out of the seat's translation
import Derived.Test.YtajhfpeijagpnaaPFnFlowsx0
import Derived.Test.YtajhfpeijagpnaaPFnFlowsx2
import Derived.Test.YtajhfpeijagpnaaPFnFlowsx4
import Derived.Test.YtajhfpeijagpnaaPFnFlowsx5
import Derived.Test.YtajhfpeijagpnaaPFnFlowsx6
import Derived.Test.YtajhfpeijagpnaaPFnFlowsx7
import Derived.Test.YtajhfpeijagpnaaPFnFlowsx8
import Derived.Test.YtajhfpeijagpnaaPFnFlowsx9
import Derived.Test.YtajhfpeijagpnaaPFnFlowsx10
namespace Go.Proofs.Ytajhfpeijagpnaa.PFnFlows
open Go.RowKit Go.Proofs.YtajhfpeijagpnaaW.PrintWords Go.Proofs.YtajhfpeijagpnaaW.PrintLast Go.Proofs.YtajhfpeijagpnaaW.PrintMore
attribute [local go_sem] max2_int min2_int max_two min_two max_three min_three max_four min_four   -- for this text's walks alone
set_option linter.unusedVariables false
set_option linter.unusedSimpArgs false
theorem zR11 {p q : Prop} (x : q) (h : q → p := by intro h; (with_reducible repeat (first | apply Kd.R_alloc | apply Kd.R_drewN | apply Kd.R_drew)); exact h) : p := h x
theorem zA11 {p : Prop} [Decidable p] (h : decide p = true := by first | (with_reducible assumption) | assumption) : p := of_decide_eq_true h
theorem zT11 {p : Prop} (h : p := by (try simp only [List.map_toArray, List.map_cons, List.map_nil]); first | done | rfl | (simp only [List.length_drop, List.length_take]; rfl)) : p := h
theorem zC11 {p q : Prop} (x : q) (h : q → p := by intro h; repeat (first | exact h | (with_reducible refine Kd.C_alloc ?_ _) | (with_reducible refine Kd.C_drewN ?_ _) | (with_reducible refine Kd.C_drew ?_))) : p := h x
theorem zE11 {p : Prop} (h : p := by first | rfl | (simp [errW_none, errW_some] <;> rfl) | (simp [*, errW_none, errW_some] <;> rfl)) : p := h
theorem zB11_0 {p : Prop} (h : p := by repeat (first | (with_reducible first | exact HB.out | apply below_alloc | apply pw_below_drewN | apply below_drew1) | exact HB.out)) : p := h

/-! ### laws_FnFlows: function 3 -/
mutual
def laws_FnFlows.j0 : Nat → List Int → Int → List Int → Bool → Option (Bool)
 | 0, _, _, _, _ => none
 | k + 1, x3, x4, x5, x93 => if x93 = true then (some false) else (laws_FnFlows.l0 k x3 x4 x5 0)
def laws_FnFlows.l0 : Nat → List Int → Int → List Int → Int → Option (Bool)
 | 0, _, _, _, _ => none
 | k + 1, x3, x4, x5, x15 => if x15 < (x5.length : Int) then (if 0 ≤ x15 then ((impl_NextOf.f k x3 (rd x5 x15)).bind fun t499 => (laws_FnFlows.l1 k x3 x4 x5 x15 t499 0)) else (none)) else (if (x5.length : Int) = 0 then (some true) else ((laws_within.f k x5 x4).bind fun t497 => (some t497)))
def laws_FnFlows.l1 : Nat → List Int → Int → List Int → Int → List Int → Int → Option (Bool)
 | 0, _, _, _, _, _, _ => none
 | k + 1, x3, x4, x5, x15, x16, x17 => if x17 < (x16.length : Int) then (if 0 ≤ x17 then ((laws_within.f k x5 (rd x16 x17)).bind fun t503 => (if t503 = true then (laws_FnFlows.l1 k x3 x4 x5 x15 x16 (wrap64 (x17 + 1))) else (some false))) else (none)) else (if 0 ≤ x15 then (if x15 < (x5.length : Int) then ((impl_LeadsTo.f k x3 x4 (rd x5 x15)).bind fun t505 => (if t505 = true then (laws_FnFlows.l0 k x3 x4 x5 (wrap64 (x15 + 1))) else (some false))) else (none)) else (none))
end
def laws_FnFlows.f (k : Nat) (l0 : List Int) : Option (Bool) := (laws_big.f l0).bind fun t455 => (if t455 = true then (some true) else ((spec_DrawReachOf.f k l0).bind fun bt456 => ((impl_ReachOf.f k bt456.1 bt456.2).bind fun t460 => ((spec_DrawNextOf.f k l0).bind fun bt463 => ((spec_DrawLeadsTo.f k l0).bind fun bt467 => ((spec_DrawLoopsFrom.f k l0).bind fun bt472 => ((spec_DrawWritesFrom.f k l0).bind fun bt476 => ((spec_ReachOf.f k bt456.1 bt456.2).bind fun t480 => ((laws_sameInts.f k t460 t480).bind fun t483 => (if t483 = true then ((impl_NextOf.f k bt463.1 bt463.2).bind fun t484 => ((spec_NextOf.f k bt463.1 bt463.2).bind fun t487 => ((laws_sameInts.f k t484 t487).bind fun t490 => (if t490 = true then ((impl_LeadsTo.f k bt467.1 bt467.2.1 bt467.2.2).bind fun t491 => ((spec_LeadsTo.f k bt467.1 bt467.2.1 bt467.2.2).bind fun t492 => (if (t491 != t492) = true then (laws_FnFlows.j0 k bt456.1 bt456.2 t460 true) else ((impl_LoopsFrom.f k bt472.1 bt472.2).bind fun t493 => ((spec_LoopsFrom.f k bt472.1 bt472.2).bind fun t494 => (if (t493 != t494) = true then (laws_FnFlows.j0 k bt456.1 bt456.2 t460 true) else ((impl_WritesFrom.f k bt476.1 bt476.2).bind fun t495 => ((spec_WritesFrom.f k bt476.1 bt476.2).bind fun t496 => (laws_FnFlows.j0 k bt456.1 bt456.2 t460 (t495 != t496)))))))))) else (laws_FnFlows.j0 k bt456.1 bt456.2 t460 true))))) else (laws_FnFlows.j0 k bt456.1 bt456.2 t460 true)))))))))))
theorem laws_FnFlows.mono_l : ∀ k, (∀ y0 y1 y2 y3, LeO (laws_FnFlows.j0 k y0 y1 y2 y3) (laws_FnFlows.j0 (k + 1) y0 y1 y2 y3)) ∧ (∀ y0 y1 y2 y3, LeO (laws_FnFlows.l0 k y0 y1 y2 y3) (laws_FnFlows.l0 (k + 1) y0 y1 y2 y3)) ∧ (∀ y0 y1 y2 y3 y4 y5, LeO (laws_FnFlows.l1 k y0 y1 y2 y3 y4 y5) (laws_FnFlows.l1 (k + 1) y0 y1 y2 y3 y4 y5))
 | 0 => ⟨fun _ _ _ _ r h => by simp [laws_FnFlows.j0] at h, fun _ _ _ _ r h => by simp [laws_FnFlows.l0] at h, fun _ _ _ _ _ _ r h => by simp [laws_FnFlows.l1] at h⟩
 | k + 1 => by
  obtain ⟨ih0, ih1, ih2⟩ := laws_FnFlows.mono_l k
  refine ⟨?_, ?_, ?_⟩
  ·intro y0 y1 y2 y3
   unfold laws_FnFlows.j0
   repeat' first
   | (with_reducible exact ih0 _ _ _ _)
   | (with_reducible exact ih1 _ _ _ _)
   | (with_reducible exact ih2 _ _ _ _ _ _)
   | (with_reducible exact impl_LeadsTo.mono _ _ _ _)
   | (with_reducible exact impl_LoopsFrom.mono _ _ _)
   | (with_reducible exact impl_NextOf.mono _ _ _)
   | (with_reducible exact impl_ReachOf.mono _ _ _)
   | (with_reducible exact impl_WritesFrom.mono _ _ _)
   | (with_reducible exact laws_sameInts.mono _ _ _)
   | (with_reducible exact laws_within.mono _ _ _)
   | (with_reducible exact spec_DrawLeadsTo.mono _ _)
   | (with_reducible exact spec_DrawLoopsFrom.mono _ _)
   | (with_reducible exact spec_DrawNextOf.mono _ _)
   | (with_reducible exact spec_DrawReachOf.mono _ _)
   | (with_reducible exact spec_DrawWritesFrom.mono _ _)
   | (with_reducible exact spec_LeadsTo.mono _ _ _ _)
   | (with_reducible exact spec_LoopsFrom.mono _ _ _)
   | (with_reducible exact spec_NextOf.mono _ _ _)
   | (with_reducible exact spec_ReachOf.mono _ _ _)
   | (with_reducible exact spec_WritesFrom.mono _ _ _)
   | (with_reducible exact LeO.refl _)
   | (with_reducible exact LeO.none _)
   | (with_reducible refine LeO.ite ?_ ?_)
   | (with_reducible refine LeO.bind ?_ (fun _ => ?_))
   | exact ih0 _ _ _ _
   | exact ih1 _ _ _ _
   | exact ih2 _ _ _ _ _ _
   | exact impl_LeadsTo.mono _ _ _ _
   | exact impl_LoopsFrom.mono _ _ _
   | exact impl_NextOf.mono _ _ _
   | exact impl_ReachOf.mono _ _ _
   | exact impl_WritesFrom.mono _ _ _
   | exact laws_sameInts.mono _ _ _
   | exact laws_within.mono _ _ _
   | exact spec_DrawLeadsTo.mono _ _
   | exact spec_DrawLoopsFrom.mono _ _
   | exact spec_DrawNextOf.mono _ _
   | exact spec_DrawReachOf.mono _ _
   | exact spec_DrawWritesFrom.mono _ _
   | exact spec_LeadsTo.mono _ _ _ _
   | exact spec_LoopsFrom.mono _ _ _
   | exact spec_NextOf.mono _ _ _
   | exact spec_ReachOf.mono _ _ _
   | exact spec_WritesFrom.mono _ _ _
   | exact LeO.none _
   | refine LeO.ite ?_ ?_
   | refine LeO.bind ?_ (fun _ => ?_)
  ·intro y0 y1 y2 y3
   unfold laws_FnFlows.l0
   repeat' first
   | (with_reducible exact ih0 _ _ _ _)
   | (with_reducible exact ih1 _ _ _ _)
   | (with_reducible exact ih2 _ _ _ _ _ _)
   | (with_reducible exact impl_LeadsTo.mono _ _ _ _)
   | (with_reducible exact impl_LoopsFrom.mono _ _ _)
   | (with_reducible exact impl_NextOf.mono _ _ _)
   | (with_reducible exact impl_ReachOf.mono _ _ _)
   | (with_reducible exact impl_WritesFrom.mono _ _ _)
   | (with_reducible exact laws_sameInts.mono _ _ _)
   | (with_reducible exact laws_within.mono _ _ _)
   | (with_reducible exact spec_DrawLeadsTo.mono _ _)
   | (with_reducible exact spec_DrawLoopsFrom.mono _ _)
   | (with_reducible exact spec_DrawNextOf.mono _ _)
   | (with_reducible exact spec_DrawReachOf.mono _ _)
   | (with_reducible exact spec_DrawWritesFrom.mono _ _)
   | (with_reducible exact spec_LeadsTo.mono _ _ _ _)
   | (with_reducible exact spec_LoopsFrom.mono _ _ _)
   | (with_reducible exact spec_NextOf.mono _ _ _)
   | (with_reducible exact spec_ReachOf.mono _ _ _)
   | (with_reducible exact spec_WritesFrom.mono _ _ _)
   | (with_reducible exact LeO.refl _)
   | (with_reducible exact LeO.none _)
   | (with_reducible refine LeO.ite ?_ ?_)
   | (with_reducible refine LeO.bind ?_ (fun _ => ?_))
   | exact ih0 _ _ _ _
   | exact ih1 _ _ _ _
   | exact ih2 _ _ _ _ _ _
   | exact impl_LeadsTo.mono _ _ _ _
   | exact impl_LoopsFrom.mono _ _ _
   | exact impl_NextOf.mono _ _ _
   | exact impl_ReachOf.mono _ _ _
   | exact impl_WritesFrom.mono _ _ _
   | exact laws_sameInts.mono _ _ _
   | exact laws_within.mono _ _ _
   | exact spec_DrawLeadsTo.mono _ _
   | exact spec_DrawLoopsFrom.mono _ _
   | exact spec_DrawNextOf.mono _ _
   | exact spec_DrawReachOf.mono _ _
   | exact spec_DrawWritesFrom.mono _ _
   | exact spec_LeadsTo.mono _ _ _ _
   | exact spec_LoopsFrom.mono _ _ _
   | exact spec_NextOf.mono _ _ _
   | exact spec_ReachOf.mono _ _ _
   | exact spec_WritesFrom.mono _ _ _
   | exact LeO.none _
   | refine LeO.ite ?_ ?_
   | refine LeO.bind ?_ (fun _ => ?_)
  ·intro y0 y1 y2 y3 y4 y5
   unfold laws_FnFlows.l1
   repeat' first
   | (with_reducible exact ih0 _ _ _ _)
   | (with_reducible exact ih1 _ _ _ _)
   | (with_reducible exact ih2 _ _ _ _ _ _)
   | (with_reducible exact impl_LeadsTo.mono _ _ _ _)
   | (with_reducible exact impl_LoopsFrom.mono _ _ _)
   | (with_reducible exact impl_NextOf.mono _ _ _)
   | (with_reducible exact impl_ReachOf.mono _ _ _)
   | (with_reducible exact impl_WritesFrom.mono _ _ _)
   | (with_reducible exact laws_sameInts.mono _ _ _)
   | (with_reducible exact laws_within.mono _ _ _)
   | (with_reducible exact spec_DrawLeadsTo.mono _ _)
   | (with_reducible exact spec_DrawLoopsFrom.mono _ _)
   | (with_reducible exact spec_DrawNextOf.mono _ _)
   | (with_reducible exact spec_DrawReachOf.mono _ _)
   | (with_reducible exact spec_DrawWritesFrom.mono _ _)
   | (with_reducible exact spec_LeadsTo.mono _ _ _ _)
   | (with_reducible exact spec_LoopsFrom.mono _ _ _)
   | (with_reducible exact spec_NextOf.mono _ _ _)
   | (with_reducible exact spec_ReachOf.mono _ _ _)
   | (with_reducible exact spec_WritesFrom.mono _ _ _)
   | (with_reducible exact LeO.refl _)
   | (with_reducible exact LeO.none _)
   | (with_reducible refine LeO.ite ?_ ?_)
   | (with_reducible refine LeO.bind ?_ (fun _ => ?_))
   | exact ih0 _ _ _ _
   | exact ih1 _ _ _ _
   | exact ih2 _ _ _ _ _ _
   | exact impl_LeadsTo.mono _ _ _ _
   | exact impl_LoopsFrom.mono _ _ _
   | exact impl_NextOf.mono _ _ _
   | exact impl_ReachOf.mono _ _ _
   | exact impl_WritesFrom.mono _ _ _
   | exact laws_sameInts.mono _ _ _
   | exact laws_within.mono _ _ _
   | exact spec_DrawLeadsTo.mono _ _
   | exact spec_DrawLoopsFrom.mono _ _
   | exact spec_DrawNextOf.mono _ _
   | exact spec_DrawReachOf.mono _ _
   | exact spec_DrawWritesFrom.mono _ _
   | exact spec_LeadsTo.mono _ _ _ _
   | exact spec_LoopsFrom.mono _ _ _
   | exact spec_NextOf.mono _ _ _
   | exact spec_ReachOf.mono _ _ _
   | exact spec_WritesFrom.mono _ _ _
   | exact LeO.none _
   | refine LeO.ite ?_ ?_
   | refine LeO.bind ?_ (fun _ => ?_)
theorem laws_FnFlows.mono : ∀ a0 k, LeO (laws_FnFlows.f k a0) (laws_FnFlows.f (k + 1) a0) := by
 intro a0 k
 obtain ⟨ih0, ih1, ih2⟩ := laws_FnFlows.mono_l k
 unfold laws_FnFlows.f
 repeat' first
   | (with_reducible exact ih0 _ _ _ _)
   | (with_reducible exact ih1 _ _ _ _)
   | (with_reducible exact ih2 _ _ _ _ _ _)
   | (with_reducible exact impl_LeadsTo.mono _ _ _ _)
   | (with_reducible exact impl_LoopsFrom.mono _ _ _)
   | (with_reducible exact impl_NextOf.mono _ _ _)
   | (with_reducible exact impl_ReachOf.mono _ _ _)
   | (with_reducible exact impl_WritesFrom.mono _ _ _)
   | (with_reducible exact laws_sameInts.mono _ _ _)
   | (with_reducible exact laws_within.mono _ _ _)
   | (with_reducible exact spec_DrawLeadsTo.mono _ _)
   | (with_reducible exact spec_DrawLoopsFrom.mono _ _)
   | (with_reducible exact spec_DrawNextOf.mono _ _)
   | (with_reducible exact spec_DrawReachOf.mono _ _)
   | (with_reducible exact spec_DrawWritesFrom.mono _ _)
   | (with_reducible exact spec_LeadsTo.mono _ _ _ _)
   | (with_reducible exact spec_LoopsFrom.mono _ _ _)
   | (with_reducible exact spec_NextOf.mono _ _ _)
   | (with_reducible exact spec_ReachOf.mono _ _ _)
   | (with_reducible exact spec_WritesFrom.mono _ _ _)
   | (with_reducible exact LeO.refl _)
   | (with_reducible exact LeO.none _)
   | (with_reducible refine LeO.ite ?_ ?_)
   | (with_reducible refine LeO.bind ?_ (fun _ => ?_))
   | exact ih0 _ _ _ _
   | exact ih1 _ _ _ _
   | exact ih2 _ _ _ _ _ _
   | exact impl_LeadsTo.mono _ _ _ _
   | exact impl_LoopsFrom.mono _ _ _
   | exact impl_NextOf.mono _ _ _
   | exact impl_ReachOf.mono _ _ _
   | exact impl_WritesFrom.mono _ _ _
   | exact laws_sameInts.mono _ _ _
   | exact laws_within.mono _ _ _
   | exact spec_DrawLeadsTo.mono _ _
   | exact spec_DrawLoopsFrom.mono _ _
   | exact spec_DrawNextOf.mono _ _
   | exact spec_DrawReachOf.mono _ _
   | exact spec_DrawWritesFrom.mono _ _
   | exact spec_LeadsTo.mono _ _ _ _
   | exact spec_LoopsFrom.mono _ _ _
   | exact spec_NextOf.mono _ _ _
   | exact spec_ReachOf.mono _ _ _
   | exact spec_WritesFrom.mono _ _ _
   | exact LeO.none _
   | refine LeO.ite ?_ ?_
   | refine LeO.bind ?_ (fun _ => ?_)
set_option maxHeartbeats 8000000 in
set_option maxRecDepth 100000 in
theorem laws_FnFlows.calls (k : Nat) (A0 : Option Addr) (c0 : Nat) (l0 : List Int) (r : Bool) (w : World) (hr0 : Kd.C (Kd.int .u8) w A0 l0.length l0) (hc0 : l0.length ≤ c0) (h : laws_FnFlows.f k l0 = some r) :
  Calls Try.prog 3 #[.slice A0 l0.length c0] w fun e w' => e = .returned (.bool r) ∧ Below w.heap.size w w' := by
 have HR0 := Aside0.mk hr0
 have HC0 := Aside0.mk hc0
 clear hr0 hc0
 have HB := Aside0.mk (Below.refl w.heap.size w)
 have H : ((laws_big.f l0).bind fun t455 => (if t455 = true then (some true) else ((spec_DrawReachOf.f k l0).bind fun bt456 => ((impl_ReachOf.f k bt456.1 bt456.2).bind fun t460 => ((spec_DrawNextOf.f k l0).bind fun bt463 => ((spec_DrawLeadsTo.f k l0).bind fun bt467 => ((spec_DrawLoopsFrom.f k l0).bind fun bt472 => ((spec_DrawWritesFrom.f k l0).bind fun bt476 => ((spec_ReachOf.f k bt456.1 bt456.2).bind fun t480 => ((laws_sameInts.f k t460 t480).bind fun t483 => (if t483 = true then ((impl_NextOf.f k bt463.1 bt463.2).bind fun t484 => ((spec_NextOf.f k bt463.1 bt463.2).bind fun t487 => ((laws_sameInts.f k t484 t487).bind fun t490 => (if t490 = true then ((impl_LeadsTo.f k bt467.1 bt467.2.1 bt467.2.2).bind fun t491 => ((spec_LeadsTo.f k bt467.1 bt467.2.1 bt467.2.2).bind fun t492 => (if (t491 != t492) = true then (laws_FnFlows.j0 k bt456.1 bt456.2 t460 true) else ((impl_LoopsFrom.f k bt472.1 bt472.2).bind fun t493 => ((spec_LoopsFrom.f k bt472.1 bt472.2).bind fun t494 => (if (t493 != t494) = true then (laws_FnFlows.j0 k bt456.1 bt456.2 t460 true) else ((impl_WritesFrom.f k bt476.1 bt476.2).bind fun t495 => ((spec_WritesFrom.f k bt476.1 bt476.2).bind fun t496 => (laws_FnFlows.j0 k bt456.1 bt456.2 t460 (t495 != t496)))))))))) else (laws_FnFlows.j0 k bt456.1 bt456.2 t460 true))))) else (laws_FnFlows.j0 k bt456.1 bt456.2 t460 true)))))))))))) = some r := h
 clear h
 replace H := Option.bind_eq_some_iff.mp H
 obtain ⟨t455, A20, H⟩ := H
 replace H : (if t455 = true then (some true) else ((spec_DrawReachOf.f k l0).bind fun bt456 => ((impl_ReachOf.f k bt456.1 bt456.2).bind fun t460 => ((spec_DrawNextOf.f k l0).bind fun bt463 => ((spec_DrawLeadsTo.f k l0).bind fun bt467 => ((spec_DrawLoopsFrom.f k l0).bind fun bt472 => ((spec_DrawWritesFrom.f k l0).bind fun bt476 => ((spec_ReachOf.f k bt456.1 bt456.2).bind fun t480 => ((laws_sameInts.f k t460 t480).bind fun t483 => (if t483 = true then ((impl_NextOf.f k bt463.1 bt463.2).bind fun t484 => ((spec_NextOf.f k bt463.1 bt463.2).bind fun t487 => ((laws_sameInts.f k t484 t487).bind fun t490 => (if t490 = true then ((impl_LeadsTo.f k bt467.1 bt467.2.1 bt467.2.2).bind fun t491 => ((spec_LeadsTo.f k bt467.1 bt467.2.1 bt467.2.2).bind fun t492 => (if (t491 != t492) = true then (laws_FnFlows.j0 k bt456.1 bt456.2 t460 true) else ((impl_LoopsFrom.f k bt472.1 bt472.2).bind fun t493 => ((spec_LoopsFrom.f k bt472.1 bt472.2).bind fun t494 => (if (t493 != t494) = true then (laws_FnFlows.j0 k bt456.1 bt456.2 t460 true) else ((impl_WritesFrom.f k bt476.1 bt476.2).bind fun t495 => ((spec_WritesFrom.f k bt476.1 bt476.2).bind fun t496 => (laws_FnFlows.j0 k bt456.1 bt456.2 t460 (t495 != t496)))))))))) else (laws_FnFlows.j0 k bt456.1 bt456.2 t460 true))))) else (laws_FnFlows.j0 k bt456.1 bt456.2 t460 true))))))))))) = some r := H
 have A2 := Aside0.mk A20
 clear A20
 by_cases c3 : t455 = true
 ·subst c3
  have H1 : (some true) = some r := by rw [if_pos rfl] at H; exact H
  clear H
  have H := H1
  clear H1
  obtain rfl := Option.some.inj H
  go_enter Try.func3, Try.ntmps3
  go_wp2_with (first | ((with_reducible refine gate_callee (f := 6) rfl ?_); refine goesL_ (some 19) rfl rfl Try.func6 (by kernel_rfl) rfl #[.slice A0 l0.length c0] rfl zT11 ?_; (with_reducible refine (laws_big.calls _ _ l0 true _ ?side1 ?side2 A2.out).mono ?_); (case side1 => exact zC11 HR0.out); (case side2 => exact HC0.out); rintro e w' ⟨rfl, ⟨nd, rfl⟩⟩; refine ⟨_, rfl, ?_⟩))
  go_ret
  exact ⟨zE11, zB11_0⟩
 replace c3 := Bool.eq_false_iff.mpr c3
 subst c3
 have H1 : ((spec_DrawReachOf.f k l0).bind fun bt456 => ((impl_ReachOf.f k bt456.1 bt456.2).bind fun t460 => ((spec_DrawNextOf.f k l0).bind fun bt463 => ((spec_DrawLeadsTo.f k l0).bind fun bt467 => ((spec_DrawLoopsFrom.f k l0).bind fun bt472 => ((spec_DrawWritesFrom.f k l0).bind fun bt476 => ((spec_ReachOf.f k bt456.1 bt456.2).bind fun t480 => ((laws_sameInts.f k t460 t480).bind fun t483 => (if t483 = true then ((impl_NextOf.f k bt463.1 bt463.2).bind fun t484 => ((spec_NextOf.f k bt463.1 bt463.2).bind fun t487 => ((laws_sameInts.f k t484 t487).bind fun t490 => (if t490 = true then ((impl_LeadsTo.f k bt467.1 bt467.2.1 bt467.2.2).bind fun t491 => ((spec_LeadsTo.f k bt467.1 bt467.2.1 bt467.2.2).bind fun t492 => (if (t491 != t492) = true then (laws_FnFlows.j0 k bt456.1 bt456.2 t460 true) else ((impl_LoopsFrom.f k bt472.1 bt472.2).bind fun t493 => ((spec_LoopsFrom.f k bt472.1 bt472.2).bind fun t494 => (if (t493 != t494) = true then (laws_FnFlows.j0 k bt456.1 bt456.2 t460 true) else ((impl_WritesFrom.f k bt476.1 bt476.2).bind fun t495 => ((spec_WritesFrom.f k bt476.1 bt476.2).bind fun t496 => (laws_FnFlows.j0 k bt456.1 bt456.2 t460 (t495 != t496)))))))))) else (laws_FnFlows.j0 k bt456.1 bt456.2 t460 true))))) else (laws_FnFlows.j0 k bt456.1 bt456.2 t460 true)))))))))) = some r := by rw [if_neg (show ¬ (false = true) by decide)] at H; exact H
 clear H
 have H := H1
 clear H1
 replace H := Option.bind_eq_some_iff.mp H
 obtain ⟨⟨t456, t457⟩, A40, H⟩ := H
 replace H : ((impl_ReachOf.f k t456 t457).bind fun t460 => ((spec_DrawNextOf.f k l0).bind fun bt463 => ((spec_DrawLeadsTo.f k l0).bind fun bt467 => ((spec_DrawLoopsFrom.f k l0).bind fun bt472 => ((spec_DrawWritesFrom.f k l0).bind fun bt476 => ((spec_ReachOf.f k t456 t457).bind fun t480 => ((laws_sameInts.f k t460 t480).bind fun t483 => (if t483 = true then ((impl_NextOf.f k bt463.1 bt463.2).bind fun t484 => ((spec_NextOf.f k bt463.1 bt463.2).bind fun t487 => ((laws_sameInts.f k t484 t487).bind fun t490 => (if t490 = true then ((impl_LeadsTo.f k bt467.1 bt467.2.1 bt467.2.2).bind fun t491 => ((spec_LeadsTo.f k bt467.1 bt467.2.1 bt467.2.2).bind fun t492 => (if (t491 != t492) = true then (laws_FnFlows.j0 k t456 t457 t460 true) else ((impl_LoopsFrom.f k bt472.1 bt472.2).bind fun t493 => ((spec_LoopsFrom.f k bt472.1 bt472.2).bind fun t494 => (if (t493 != t494) = true then (laws_FnFlows.j0 k t456 t457 t460 true) else ((impl_WritesFrom.f k bt476.1 bt476.2).bind fun t495 => ((spec_WritesFrom.f k bt476.1 bt476.2).bind fun t496 => (laws_FnFlows.j0 k t456 t457 t460 (t495 != t496)))))))))) else (laws_FnFlows.j0 k t456 t457 t460 true))))) else (laws_FnFlows.j0 k t456 t457 t460 true))))))))) = some r := H
 have A4 := Aside0.mk A40
 clear A40
 replace H := Option.bind_eq_some_iff.mp H
 obtain ⟨t460, A50, H⟩ := H
 replace H : ((spec_DrawNextOf.f k l0).bind fun bt463 => ((spec_DrawLeadsTo.f k l0).bind fun bt467 => ((spec_DrawLoopsFrom.f k l0).bind fun bt472 => ((spec_DrawWritesFrom.f k l0).bind fun bt476 => ((spec_ReachOf.f k t456 t457).bind fun t480 => ((laws_sameInts.f k t460 t480).bind fun t483 => (if t483 = true then ((impl_NextOf.f k bt463.1 bt463.2).bind fun t484 => ((spec_NextOf.f k bt463.1 bt463.2).bind fun t487 => ((laws_sameInts.f k t484 t487).bind fun t490 => (if t490 = true then ((impl_LeadsTo.f k bt467.1 bt467.2.1 bt467.2.2).bind fun t491 => ((spec_LeadsTo.f k bt467.1 bt467.2.1 bt467.2.2).bind fun t492 => (if (t491 != t492) = true then (laws_FnFlows.j0 k t456 t457 t460 true) else ((impl_LoopsFrom.f k bt472.1 bt472.2).bind fun t493 => ((spec_LoopsFrom.f k bt472.1 bt472.2).bind fun t494 => (if (t493 != t494) = true then (laws_FnFlows.j0 k t456 t457 t460 true) else ((impl_WritesFrom.f k bt476.1 bt476.2).bind fun t495 => ((spec_WritesFrom.f k bt476.1 bt476.2).bind fun t496 => (laws_FnFlows.j0 k t456 t457 t460 (t495 != t496)))))))))) else (laws_FnFlows.j0 k t456 t457 t460 true))))) else (laws_FnFlows.j0 k t456 t457 t460 true)))))))) = some r := H
 have A5 := Aside0.mk A50
 clear A50
 replace H := Option.bind_eq_some_iff.mp H
 obtain ⟨⟨t463, t464⟩, A60, H⟩ := H
 replace H : ((spec_DrawLeadsTo.f k l0).bind fun bt467 => ((spec_DrawLoopsFrom.f k l0).bind fun bt472 => ((spec_DrawWritesFrom.f k l0).bind fun bt476 => ((spec_ReachOf.f k t456 t457).bind fun t480 => ((laws_sameInts.f k t460 t480).bind fun t483 => (if t483 = true then ((impl_NextOf.f k t463 t464).bind fun t484 => ((spec_NextOf.f k t463 t464).bind fun t487 => ((laws_sameInts.f k t484 t487).bind fun t490 => (if t490 = true then ((impl_LeadsTo.f k bt467.1 bt467.2.1 bt467.2.2).bind fun t491 => ((spec_LeadsTo.f k bt467.1 bt467.2.1 bt467.2.2).bind fun t492 => (if (t491 != t492) = true then (laws_FnFlows.j0 k t456 t457 t460 true) else ((impl_LoopsFrom.f k bt472.1 bt472.2).bind fun t493 => ((spec_LoopsFrom.f k bt472.1 bt472.2).bind fun t494 => (if (t493 != t494) = true then (laws_FnFlows.j0 k t456 t457 t460 true) else ((impl_WritesFrom.f k bt476.1 bt476.2).bind fun t495 => ((spec_WritesFrom.f k bt476.1 bt476.2).bind fun t496 => (laws_FnFlows.j0 k t456 t457 t460 (t495 != t496)))))))))) else (laws_FnFlows.j0 k t456 t457 t460 true))))) else (laws_FnFlows.j0 k t456 t457 t460 true))))))) = some r := H
 have A6 := Aside0.mk A60
 clear A60
 replace H := Option.bind_eq_some_iff.mp H
 obtain ⟨⟨t467, t468, t469⟩, A70, H⟩ := H
 replace H : ((spec_DrawLoopsFrom.f k l0).bind fun bt472 => ((spec_DrawWritesFrom.f k l0).bind fun bt476 => ((spec_ReachOf.f k t456 t457).bind fun t480 => ((laws_sameInts.f k t460 t480).bind fun t483 => (if t483 = true then ((impl_NextOf.f k t463 t464).bind fun t484 => ((spec_NextOf.f k t463 t464).bind fun t487 => ((laws_sameInts.f k t484 t487).bind fun t490 => (if t490 = true then ((impl_LeadsTo.f k t467 t468 t469).bind fun t491 => ((spec_LeadsTo.f k t467 t468 t469).bind fun t492 => (if (t491 != t492) = true then (laws_FnFlows.j0 k t456 t457 t460 true) else ((impl_LoopsFrom.f k bt472.1 bt472.2).bind fun t493 => ((spec_LoopsFrom.f k bt472.1 bt472.2).bind fun t494 => (if (t493 != t494) = true then (laws_FnFlows.j0 k t456 t457 t460 true) else ((impl_WritesFrom.f k bt476.1 bt476.2).bind fun t495 => ((spec_WritesFrom.f k bt476.1 bt476.2).bind fun t496 => (laws_FnFlows.j0 k t456 t457 t460 (t495 != t496)))))))))) else (laws_FnFlows.j0 k t456 t457 t460 true))))) else (laws_FnFlows.j0 k t456 t457 t460 true)))))) = some r := H
 have A7 := Aside0.mk A70
 clear A70
 replace H := Option.bind_eq_some_iff.mp H
 obtain ⟨⟨t472, t473⟩, A80, H⟩ := H
 replace H : ((spec_DrawWritesFrom.f k l0).bind fun bt476 => ((spec_ReachOf.f k t456 t457).bind fun t480 => ((laws_sameInts.f k t460 t480).bind fun t483 => (if t483 = true then ((impl_NextOf.f k t463 t464).bind fun t484 => ((spec_NextOf.f k t463 t464).bind fun t487 => ((laws_sameInts.f k t484 t487).bind fun t490 => (if t490 = true then ((impl_LeadsTo.f k t467 t468 t469).bind fun t491 => ((spec_LeadsTo.f k t467 t468 t469).bind fun t492 => (if (t491 != t492) = true then (laws_FnFlows.j0 k t456 t457 t460 true) else ((impl_LoopsFrom.f k t472 t473).bind fun t493 => ((spec_LoopsFrom.f k t472 t473).bind fun t494 => (if (t493 != t494) = true then (laws_FnFlows.j0 k t456 t457 t460 true) else ((impl_WritesFrom.f k bt476.1 bt476.2).bind fun t495 => ((spec_WritesFrom.f k bt476.1 bt476.2).bind fun t496 => (laws_FnFlows.j0 k t456 t457 t460 (t495 != t496)))))))))) else (laws_FnFlows.j0 k t456 t457 t460 true))))) else (laws_FnFlows.j0 k t456 t457 t460 true))))) = some r := H
 have A8 := Aside0.mk A80
 clear A80
 replace H := Option.bind_eq_some_iff.mp H
 obtain ⟨⟨t476, t477⟩, A90, H⟩ := H
 replace H : ((spec_ReachOf.f k t456 t457).bind fun t480 => ((laws_sameInts.f k t460 t480).bind fun t483 => (if t483 = true then ((impl_NextOf.f k t463 t464).bind fun t484 => ((spec_NextOf.f k t463 t464).bind fun t487 => ((laws_sameInts.f k t484 t487).bind fun t490 => (if t490 = true then ((impl_LeadsTo.f k t467 t468 t469).bind fun t491 => ((spec_LeadsTo.f k t467 t468 t469).bind fun t492 => (if (t491 != t492) = true then (laws_FnFlows.j0 k t456 t457 t460 true) else ((impl_LoopsFrom.f k t472 t473).bind fun t493 => ((spec_LoopsFrom.f k t472 t473).bind fun t494 => (if (t493 != t494) = true then (laws_FnFlows.j0 k t456 t457 t460 true) else ((impl_WritesFrom.f k t476 t477).bind fun t495 => ((spec_WritesFrom.f k t476 t477).bind fun t496 => (laws_FnFlows.j0 k t456 t457 t460 (t495 != t496)))))))))) else (laws_FnFlows.j0 k t456 t457 t460 true))))) else (laws_FnFlows.j0 k t456 t457 t460 true)))) = some r := H
 have A9 := Aside0.mk A90
 clear A90
 have HC10 := Aside0.mk H
 clear H
 go_enter Try.func3, Try.ntmps3
 go_upto_region 9 with (first | ((with_reducible refine gate_callee (f := 6) rfl ?_); refine goesL_ (some 19) rfl rfl Try.func6 (by kernel_rfl) rfl #[.slice A0 l0.length c0] rfl zT11 ?_; (with_reducible refine (laws_big.calls _ _ l0 false _ ?side1 ?side2 A2.out).mono ?_); (case side1 => exact zC11 HR0.out); (case side2 => exact HC0.out); rintro e w' ⟨rfl, ⟨nd, rfl⟩⟩; refine ⟨_, rfl, ?_⟩) | ((with_reducible refine gate_callee (f := 7) rfl ?_); refine goesL_ (some 22) rfl rfl Try.func7 (by kernel_rfl) rfl #[.slice A0 l0.length c0] rfl zT11 ?_; (with_reducible refine (spec_DrawReachOf.calls k _ _ l0 t456 t457 _ ?side1 ?side2 A4.out).mono ?_); (case side1 => exact zC11 HR0.out); (case side2 => exact HC0.out); rintro e w11 ⟨v458, rfl, ho0, hb⟩; refine ⟨_, rfl, ?_⟩; have n0_ := Aside0.mk (Kd.Q_lower ho0 (below_size (zB11_0))); have n1_ := Aside0.mk (below_step (zB11_0) hb); clear HB; have HO459 := n0_; have HB := n1_; clear n0_ n1_; (try clear hb); (try clear hb2); (try clear hk); (try clear hi); (try clear ho0); obtain ⟨Ao12, co12, eo12, _⟩ := Kd.Q_slice HO459.out; subst eo12) | ((with_reducible refine gate_callee (f := 8) rfl ?_); refine goesL_ (some 27) rfl rfl Try.func8 (by kernel_rfl) rfl #[.slice Ao12 t456.length co12, .int .i64 t457] rfl zT11 ?_; (with_reducible refine (impl_ReachOf.calls k _ _ t456 t457 t460 _ ?side1 ?side2 A5.out).mono ?_); (case side1 => exact zC11 (Kd.Q_reads' HO459.out).2.2); (case side2 => exact (Kd.Q_reads' HO459.out).2.1); rintro e w13 ⟨v461, rfl, ho0, hb⟩; refine ⟨_, rfl, ?_⟩; have n0_ := Aside0.mk (Kd.Q_elder' (by (with_reducible repeat (first | apply Kd.Q_alloc | apply Kd.Q_drewN | apply Kd.Q_drew)); exact HO459.out) (Kd.R_base ho0) hb); have n1_ := Aside0.mk (Kd.R_lower (Kd.R_new' ho0 (Kd.Q_lt (by (with_reducible repeat (first | apply Kd.Q_alloc | apply Kd.Q_drewN | apply Kd.Q_drew)); exact HO459.out))) (below_size (zB11_0))); have n2_ := Aside0.mk (below_step (zB11_0) hb); clear HO459; clear HB; have HO459 := n0_; have HO462 := n1_; have HB := n2_; clear n0_ n1_ n2_; (try clear hb); (try clear hb2); (try clear hk); (try clear hi); (try clear ho0)) | ((with_reducible refine gate_callee (f := 9) rfl ?_); refine goesL_ (some 30) rfl rfl Try.func9 (by kernel_rfl) rfl #[.slice A0 l0.length c0] rfl zT11 ?_; (with_reducible refine (spec_DrawNextOf.calls k _ _ l0 t463 t464 _ ?side1 ?side2 A6.out).mono ?_); (case side1 => exact zC11 (Kd.C_below HR0.out HB.out)); (case side2 => exact HC0.out); rintro e w14 ⟨v465, rfl, ho0, hb⟩; refine ⟨_, rfl, ?_⟩; have n0_ := Aside0.mk (Kd.Q_elder' (by (with_reducible repeat (first | apply Kd.Q_alloc | apply Kd.Q_drewN | apply Kd.Q_drew)); exact HO459.out) (Kd.Q_base ho0) hb); have n1_ := Aside0.mk (Kd.R_elder' (zR11 HO462.out) (Kd.Q_base ho0) hb); have n2_ := Aside0.mk (Kd.Q_lower (Kd.Q_new' (Kd.Q_new' ho0 (Kd.Q_lt (by (with_reducible repeat (first | apply Kd.Q_alloc | apply Kd.Q_drewN | apply Kd.Q_drew)); exact HO459.out))) (Kd.R_lt (zR11 HO462.out))) (below_size (zB11_0))); have n3_ := Aside0.mk (below_step (zB11_0) hb); clear HO459; clear HO462; clear HB; have HO459 := n0_; have HO462 := n1_; have HO466 := n2_; have HB := n3_; clear n0_ n1_ n2_ n3_; (try clear hb); (try clear hb2); (try clear hk); (try clear hi); (try clear ho0)) | ((with_reducible refine gate_callee (f := 10) rfl ?_); refine goesL_ (some 35) rfl rfl Try.func10 (by kernel_rfl) rfl #[.slice A0 l0.length c0] rfl zT11 ?_; (with_reducible refine (spec_DrawLeadsTo.calls k _ _ l0 t467 t468 t469 _ ?side1 ?side2 A7.out).mono ?_); (case side1 => exact zC11 (Kd.C_below HR0.out HB.out)); (case side2 => exact HC0.out); rintro e w15 ⟨v470, rfl, ho0, hb⟩; refine ⟨_, rfl, ?_⟩; have n0_ := Aside0.mk (Kd.Q_elder' (by (with_reducible repeat (first | apply Kd.Q_alloc | apply Kd.Q_drewN | apply Kd.Q_drew)); exact HO459.out) (Kd.Q_base ho0) hb); have n1_ := Aside0.mk (Kd.R_elder' (zR11 HO462.out) (Kd.Q_base ho0) hb); have n2_ := Aside0.mk (Kd.Q_elder' (by (with_reducible repeat (first | apply Kd.Q_alloc | apply Kd.Q_drewN | apply Kd.Q_drew)); exact HO466.out) (Kd.Q_base ho0) hb); have n3_ := Aside0.mk (Kd.Q_lower (Kd.Q_new' (Kd.Q_new' (Kd.Q_new' ho0 (Kd.Q_lt (by (with_reducible repeat (first | apply Kd.Q_alloc | apply Kd.Q_drewN | apply Kd.Q_drew)); exact HO459.out))) (Kd.R_lt (zR11 HO462.out))) (Kd.Q_lt (by (with_reducible repeat (first | apply Kd.Q_alloc | apply Kd.Q_drewN | apply Kd.Q_drew)); exact HO466.out))) (below_size (zB11_0))); have n4_ := Aside0.mk (below_step (zB11_0) hb); clear HO459; clear HO462; clear HO466; clear HB; have HO459 := n0_; have HO462 := n1_; have HO466 := n2_; have HO471 := n3_; have HB := n4_; clear n0_ n1_ n2_ n3_ n4_; (try clear hb); (try clear hb2); (try clear hk); (try clear hi); (try clear ho0)) | ((with_reducible refine gate_callee (f := 11) rfl ?_); refine goesL_ (some 41) rfl rfl Try.func11 (by kernel_rfl) rfl #[.slice A0 l0.length c0] rfl zT11 ?_; (with_reducible refine (spec_DrawLoopsFrom.calls k _ _ l0 t472 t473 _ ?side1 ?side2 A8.out).mono ?_); (case side1 => exact zC11 (Kd.C_below HR0.out HB.out)); (case side2 => exact HC0.out); rintro e w16 ⟨v474, rfl, ho0, hb⟩; refine ⟨_, rfl, ?_⟩; have n0_ := Aside0.mk (Kd.Q_elder' (by (with_reducible repeat (first | apply Kd.Q_alloc | apply Kd.Q_drewN | apply Kd.Q_drew)); exact HO459.out) (Kd.Q_base ho0) hb); have n1_ := Aside0.mk (Kd.R_elder' (zR11 HO462.out) (Kd.Q_base ho0) hb); have n2_ := Aside0.mk (Kd.Q_elder' (by (with_reducible repeat (first | apply Kd.Q_alloc | apply Kd.Q_drewN | apply Kd.Q_drew)); exact HO466.out) (Kd.Q_base ho0) hb); have n3_ := Aside0.mk (Kd.Q_elder' (by (with_reducible repeat (first | apply Kd.Q_alloc | apply Kd.Q_drewN | apply Kd.Q_drew)); exact HO471.out) (Kd.Q_base ho0) hb); have n4_ := Aside0.mk (Kd.Q_lower (Kd.Q_new' (Kd.Q_new' (Kd.Q_new' (Kd.Q_new' ho0 (Kd.Q_lt (by (with_reducible repeat (first | apply Kd.Q_alloc | apply Kd.Q_drewN | apply Kd.Q_drew)); exact HO459.out))) (Kd.R_lt (zR11 HO462.out))) (Kd.Q_lt (by (with_reducible repeat (first | apply Kd.Q_alloc | apply Kd.Q_drewN | apply Kd.Q_drew)); exact HO466.out))) (Kd.Q_lt (by (with_reducible repeat (first | apply Kd.Q_alloc | apply Kd.Q_drewN | apply Kd.Q_drew)); exact HO471.out))) (below_size (zB11_0))); have n5_ := Aside0.mk (below_step (zB11_0) hb); clear HO459; clear HO462; clear HO466; clear HO471; clear HB; have HO459 := n0_; have HO462 := n1_; have HO466 := n2_; have HO471 := n3_; have HO475 := n4_; have HB := n5_; clear n0_ n1_ n2_ n3_ n4_ n5_; (try clear hb); (try clear hb2); (try clear hk); (try clear hi); (try clear ho0)) | ((with_reducible refine gate_callee (f := 12) rfl ?_); refine goesL_ (some 46) rfl rfl Try.func12 (by kernel_rfl) rfl #[.slice A0 l0.length c0] rfl zT11 ?_; (with_reducible refine (spec_DrawWritesFrom.calls k _ _ l0 t476 t477 _ ?side1 ?side2 A9.out).mono ?_); (case side1 => exact zC11 (Kd.C_below HR0.out HB.out)); (case side2 => exact HC0.out); rintro e w17 ⟨v478, rfl, ho0, hb⟩; refine ⟨_, rfl, ?_⟩; have n0_ := Aside0.mk (Kd.Q_elder' (by (with_reducible repeat (first | apply Kd.Q_alloc | apply Kd.Q_drewN | apply Kd.Q_drew)); exact HO459.out) (Kd.Q_base ho0) hb); have n1_ := Aside0.mk (Kd.R_elder' (zR11 HO462.out) (Kd.Q_base ho0) hb); have n2_ := Aside0.mk (Kd.Q_elder' (by (with_reducible repeat (first | apply Kd.Q_alloc | apply Kd.Q_drewN | apply Kd.Q_drew)); exact HO466.out) (Kd.Q_base ho0) hb); have n3_ := Aside0.mk (Kd.Q_elder' (by (with_reducible repeat (first | apply Kd.Q_alloc | apply Kd.Q_drewN | apply Kd.Q_drew)); exact HO471.out) (Kd.Q_base ho0) hb); have n4_ := Aside0.mk (Kd.Q_elder' (by (with_reducible repeat (first | apply Kd.Q_alloc | apply Kd.Q_drewN | apply Kd.Q_drew)); exact HO475.out) (Kd.Q_base ho0) hb); have n5_ := Aside0.mk (Kd.Q_lower (Kd.Q_new' (Kd.Q_new' (Kd.Q_new' (Kd.Q_new' (Kd.Q_new' ho0 (Kd.Q_lt (by (with_reducible repeat (first | apply Kd.Q_alloc | apply Kd.Q_drewN | apply Kd.Q_drew)); exact HO459.out))) (Kd.R_lt (zR11 HO462.out))) (Kd.Q_lt (by (with_reducible repeat (first | apply Kd.Q_alloc | apply Kd.Q_drewN | apply Kd.Q_drew)); exact HO466.out))) (Kd.Q_lt (by (with_reducible repeat (first | apply Kd.Q_alloc | apply Kd.Q_drewN | apply Kd.Q_drew)); exact HO471.out))) (Kd.Q_lt (by (with_reducible repeat (first | apply Kd.Q_alloc | apply Kd.Q_drewN | apply Kd.Q_drew)); exact HO475.out))) (below_size (zB11_0))); have n6_ := Aside0.mk (below_step (zB11_0) hb); clear HO459; clear HO462; clear HO466; clear HO471; clear HO475; clear HB; have HO459 := n0_; have HO462 := n1_; have HO466 := n2_; have HO471 := n3_; have HO475 := n4_; have HO479 := n5_; have HB := n6_; clear n0_ n1_ n2_ n3_ n4_ n5_ n6_; (try clear hb); (try clear hb2); (try clear hk); (try clear hi); (try clear ho0)))
 (try simp only [Act.put, List.setIfInBounds_toArray, List.set_cons_zero, List.set_cons_succ])
 go_cut [93] (fun v93 wc => ∃ (kq : Nat) (x93_9 : Bool), v93 = .bool x93_9 ∧ Aside0 (laws_FnFlows.j0 kq t456 t457 t460 x93_9 = some r) ∧ Aside0 (kq ≤ k) ∧ Aside0 (Kd.Q (Kd.int .i64) 3 wc w.heap.size (fun k_ => some k_ ≠ (v461 : Value).ownBlock) (.slice Ao12 t456.length co12) t456) ∧ Aside0 (Kd.R (Kd.int .i64) 3 wc w.heap.size (fun k_ => some k_ ≠ ((.slice Ao12 t456.length co12) : Value).ownBlock) v461 t460) ∧ Aside0 (Below w.heap.size w wc))
 case first =>
  have H := HC10.out
  clear HC10
  replace H := Option.bind_eq_some_iff.mp H
  obtain ⟨t480, A180, H⟩ := H
  replace H : ((laws_sameInts.f k t460 t480).bind fun t483 => (if t483 = true then ((impl_NextOf.f k t463 t464).bind fun t484 => ((spec_NextOf.f k t463 t464).bind fun t487 => ((laws_sameInts.f k t484 t487).bind fun t490 => (if t490 = true then ((impl_LeadsTo.f k t467 t468 t469).bind fun t491 => ((spec_LeadsTo.f k t467 t468 t469).bind fun t492 => (if (t491 != t492) = true then (laws_FnFlows.j0 k t456 t457 t460 true) else ((impl_LoopsFrom.f k t472 t473).bind fun t493 => ((spec_LoopsFrom.f k t472 t473).bind fun t494 => (if (t493 != t494) = true then (laws_FnFlows.j0 k t456 t457 t460 true) else ((impl_WritesFrom.f k t476 t477).bind fun t495 => ((spec_WritesFrom.f k t476 t477).bind fun t496 => (laws_FnFlows.j0 k t456 t457 t460 (t495 != t496)))))))))) else (laws_FnFlows.j0 k t456 t457 t460 true))))) else (laws_FnFlows.j0 k t456 t457 t460 true))) = some r := H
  have A18 := Aside0.mk A180
  clear A180
  replace H := Option.bind_eq_some_iff.mp H
  obtain ⟨t483, A190, H⟩ := H
  replace H : (if t483 = true then ((impl_NextOf.f k t463 t464).bind fun t484 => ((spec_NextOf.f k t463 t464).bind fun t487 => ((laws_sameInts.f k t484 t487).bind fun t490 => (if t490 = true then ((impl_LeadsTo.f k t467 t468 t469).bind fun t491 => ((spec_LeadsTo.f k t467 t468 t469).bind fun t492 => (if (t491 != t492) = true then (laws_FnFlows.j0 k t456 t457 t460 true) else ((impl_LoopsFrom.f k t472 t473).bind fun t493 => ((spec_LoopsFrom.f k t472 t473).bind fun t494 => (if (t493 != t494) = true then (laws_FnFlows.j0 k t456 t457 t460 true) else ((impl_WritesFrom.f k t476 t477).bind fun t495 => ((spec_WritesFrom.f k t476 t477).bind fun t496 => (laws_FnFlows.j0 k t456 t457 t460 (t495 != t496)))))))))) else (laws_FnFlows.j0 k t456 t457 t460 true))))) else (laws_FnFlows.j0 k t456 t457 t460 true)) = some r := H
  have A19 := Aside0.mk A190
  clear A190
  by_cases c20 : t483 = true
  rotate_left
  ·replace c20 := Bool.eq_false_iff.mpr c20
   subst c20
   have H1 : (laws_FnFlows.j0 k t456 t457 t460 true) = some r := by rw [if_neg (show ¬ (false = true) by decide)] at H; exact H
   clear H
   have H := H1
   clear H1
   have H' := Aside0.mk H
   clear H
   go_wp2_with (first | ((with_reducible refine gate_callee (f := 14) rfl ?_); refine goesL_ (some 52) rfl rfl Try.func14 (by kernel_rfl) rfl #[.slice Ao12 t456.length co12, .int .i64 t457] rfl zT11 ?_; (with_reducible refine (spec_ReachOf.calls k _ _ t456 t457 t480 _ ?side1 ?side2 A18.out).mono ?_); (case side1 => exact zC11 (Kd.Q_reads' HO459.out).2.2); (case side2 => exact (Kd.Q_reads' HO459.out).2.1); rintro e w83 ⟨v481, rfl, ho0, hb⟩; refine ⟨_, rfl, ?_⟩; have n0_ := Aside0.mk (Kd.Q_elder' (by (with_reducible repeat (first | apply Kd.Q_alloc | apply Kd.Q_drewN | apply Kd.Q_drew)); exact HO459.out) (Kd.R_base ho0) hb); have n1_ := Aside0.mk (Kd.R_elder' (zR11 HO462.out) (Kd.R_base ho0) hb); have n2_ := Aside0.mk (Kd.Q_elder' (by (with_reducible repeat (first | apply Kd.Q_alloc | apply Kd.Q_drewN | apply Kd.Q_drew)); exact HO466.out) (Kd.R_base ho0) hb); have n3_ := Aside0.mk (Kd.Q_elder' (by (with_reducible repeat (first | apply Kd.Q_alloc | apply Kd.Q_drewN | apply Kd.Q_drew)); exact HO471.out) (Kd.R_base ho0) hb); have n4_ := Aside0.mk (Kd.Q_elder' (by (with_reducible repeat (first | apply Kd.Q_alloc | apply Kd.Q_drewN | apply Kd.Q_drew)); exact HO475.out) (Kd.R_base ho0) hb); have n5_ := Aside0.mk (Kd.Q_elder' (by (with_reducible repeat (first | apply Kd.Q_alloc | apply Kd.Q_drewN | apply Kd.Q_drew)); exact HO479.out) (Kd.R_base ho0) hb); have n6_ := Aside0.mk (Kd.R_lower (Kd.R_new' (Kd.R_new' (Kd.R_new' (Kd.R_new' (Kd.R_new' (Kd.R_new' ho0 (Kd.Q_lt (by (with_reducible repeat (first | apply Kd.Q_alloc | apply Kd.Q_drewN | apply Kd.Q_drew)); exact HO459.out))) (Kd.R_lt (zR11 HO462.out))) (Kd.Q_lt (by (with_reducible repeat (first | apply Kd.Q_alloc | apply Kd.Q_drewN | apply Kd.Q_drew)); exact HO466.out))) (Kd.Q_lt (by (with_reducible repeat (first | apply Kd.Q_alloc | apply Kd.Q_drewN | apply Kd.Q_drew)); exact HO471.out))) (Kd.Q_lt (by (with_reducible repeat (first | apply Kd.Q_alloc | apply Kd.Q_drewN | apply Kd.Q_drew)); exact HO475.out))) (Kd.Q_lt (by (with_reducible repeat (first | apply Kd.Q_alloc | apply Kd.Q_drewN | apply Kd.Q_drew)); exact HO479.out))) (below_size (zB11_0))); have n7_ := Aside0.mk (below_step (zB11_0) hb); clear HO459; clear HO462; clear HO466; clear HO471; clear HO475; clear HO479; clear HB; have HO459 := n0_; have HO462 := n1_; have HO466 := n2_; have HO471 := n3_; have HO475 := n4_; have HO479 := n5_; have HO482 := n6_; have HB := n7_; clear n0_ n1_ n2_ n3_ n4_ n5_ n6_ n7_; (try clear hb); (try clear hb2); (try clear hk); (try clear hi); (try clear ho0); obtain ⟨Ao84, co84, eo84⟩ := Kd.R_slice HO462.out; subst eo84; obtain ⟨Ao85, co85, eo85⟩ := Kd.R_slice HO482.out; subst eo85) | ((with_reducible refine gate_callee (f := 13) rfl ?_); refine goesL_ (some 53) rfl rfl Try.func13 (by kernel_rfl) rfl #[.slice Ao84 t460.length co84, .slice Ao85 t480.length co85] rfl zT11 ?_; (with_reducible refine (laws_sameInts.calls k _ _ t460 _ _ t480 false _ ?side1 ?side2 ?side3 ?side4 A19.out).mono ?_); (case side1 => exact zC11 (Kd.R_reads' HO462.out).2.2); (case side2 => exact (Kd.R_reads' HO462.out).2.1); (case side3 => exact zC11 (Kd.R_reads' HO482.out).2.2); (case side4 => exact (Kd.R_reads' HO482.out).2.1); rintro e w' ⟨rfl, ⟨nd, rfl⟩⟩; refine ⟨_, rfl, ?_⟩))
   go_meet
   case rel => exact ⟨_, (true), (by first | rfl | (simp; done) | (simp [*]; done)), H', ⟨by first | omega | exact Nat.le_refl _⟩, ⟨by (with_reducible repeat (first | apply Kd.Q_alloc | apply Kd.Q_drewN | apply Kd.Q_drew)); exact Kd.Q_mono HO459.out (fun _ hk => hk.1.1.1.1.1.2)⟩, ⟨by (with_reducible repeat (first | apply Kd.R_alloc | apply Kd.R_drewN | apply Kd.R_drew)); exact Kd.R_mono HO462.out (fun _ hk => hk.1.1.1.1.1.2)⟩, ⟨zB11_0⟩⟩
  subst c20
  have H1 : ((impl_NextOf.f k t463 t464).bind fun t484 => ((spec_NextOf.f k t463 t464).bind fun t487 => ((laws_sameInts.f k t484 t487).bind fun t490 => (if t490 = true then ((impl_LeadsTo.f k t467 t468 t469).bind fun t491 => ((spec_LeadsTo.f k t467 t468 t469).bind fun t492 => (if (t491 != t492) = true then (laws_FnFlows.j0 k t456 t457 t460 true) else ((impl_LoopsFrom.f k t472 t473).bind fun t493 => ((spec_LoopsFrom.f k t472 t473).bind fun t494 => (if (t493 != t494) = true then (laws_FnFlows.j0 k t456 t457 t460 true) else ((impl_WritesFrom.f k t476 t477).bind fun t495 => ((spec_WritesFrom.f k t476 t477).bind fun t496 => (laws_FnFlows.j0 k t456 t457 t460 (t495 != t496)))))))))) else (laws_FnFlows.j0 k t456 t457 t460 true))))) = some r := by rw [if_pos rfl] at H; exact H
  clear H
  have H := H1
  clear H1
  replace H := Option.bind_eq_some_iff.mp H
  obtain ⟨t484, A210, H⟩ := H
  replace H : ((spec_NextOf.f k t463 t464).bind fun t487 => ((laws_sameInts.f k t484 t487).bind fun t490 => (if t490 = true then ((impl_LeadsTo.f k t467 t468 t469).bind fun t491 => ((spec_LeadsTo.f k t467 t468 t469).bind fun t492 => (if (t491 != t492) = true then (laws_FnFlows.j0 k t456 t457 t460 true) else ((impl_LoopsFrom.f k t472 t473).bind fun t493 => ((spec_LoopsFrom.f k t472 t473).bind fun t494 => (if (t493 != t494) = true then (laws_FnFlows.j0 k t456 t457 t460 true) else ((impl_WritesFrom.f k t476 t477).bind fun t495 => ((spec_WritesFrom.f k t476 t477).bind fun t496 => (laws_FnFlows.j0 k t456 t457 t460 (t495 != t496)))))))))) else (laws_FnFlows.j0 k t456 t457 t460 true)))) = some r := H
  have A21 := Aside0.mk A210
  clear A210
  replace H := Option.bind_eq_some_iff.mp H
  obtain ⟨t487, A220, H⟩ := H
  replace H : ((laws_sameInts.f k t484 t487).bind fun t490 => (if t490 = true then ((impl_LeadsTo.f k t467 t468 t469).bind fun t491 => ((spec_LeadsTo.f k t467 t468 t469).bind fun t492 => (if (t491 != t492) = true then (laws_FnFlows.j0 k t456 t457 t460 true) else ((impl_LoopsFrom.f k t472 t473).bind fun t493 => ((spec_LoopsFrom.f k t472 t473).bind fun t494 => (if (t493 != t494) = true then (laws_FnFlows.j0 k t456 t457 t460 true) else ((impl_WritesFrom.f k t476 t477).bind fun t495 => ((spec_WritesFrom.f k t476 t477).bind fun t496 => (laws_FnFlows.j0 k t456 t457 t460 (t495 != t496)))))))))) else (laws_FnFlows.j0 k t456 t457 t460 true))) = some r := H
  have A22 := Aside0.mk A220
  clear A220
  replace H := Option.bind_eq_some_iff.mp H
  obtain ⟨t490, A230, H⟩ := H
  replace H : (if t490 = true then ((impl_LeadsTo.f k t467 t468 t469).bind fun t491 => ((spec_LeadsTo.f k t467 t468 t469).bind fun t492 => (if (t491 != t492) = true then (laws_FnFlows.j0 k t456 t457 t460 true) else ((impl_LoopsFrom.f k t472 t473).bind fun t493 => ((spec_LoopsFrom.f k t472 t473).bind fun t494 => (if (t493 != t494) = true then (laws_FnFlows.j0 k t456 t457 t460 true) else ((impl_WritesFrom.f k t476 t477).bind fun t495 => ((spec_WritesFrom.f k t476 t477).bind fun t496 => (laws_FnFlows.j0 k t456 t457 t460 (t495 != t496)))))))))) else (laws_FnFlows.j0 k t456 t457 t460 true)) = some r := H
  have A23 := Aside0.mk A230
  clear A230
  by_cases c24 : t490 = true
  rotate_left
  ·replace c24 := Bool.eq_false_iff.mpr c24
   subst c24
   have H1 : (laws_FnFlows.j0 k t456 t457 t460 true) = some r := by rw [if_neg (show ¬ (false = true) by decide)] at H; exact H
   clear H
   have H := H1
   clear H1
   have H' := Aside0.mk H
   clear H
   go_wp2_with (first | ((with_reducible refine gate_callee (f := 14) rfl ?_); refine goesL_ (some 52) rfl rfl Try.func14 (by kernel_rfl) rfl #[.slice Ao12 t456.length co12, .int .i64 t457] rfl zT11 ?_; (with_reducible refine (spec_ReachOf.calls k _ _ t456 t457 t480 _ ?side1 ?side2 A18.out).mono ?_); (case side1 => exact zC11 (Kd.Q_reads' HO459.out).2.2); (case side2 => exact (Kd.Q_reads' HO459.out).2.1); rintro e w75 ⟨v481, rfl, ho0, hb⟩; refine ⟨_, rfl, ?_⟩; have n0_ := Aside0.mk (Kd.Q_elder' (by (with_reducible repeat (first | apply Kd.Q_alloc | apply Kd.Q_drewN | apply Kd.Q_drew)); exact HO459.out) (Kd.R_base ho0) hb); have n1_ := Aside0.mk (Kd.R_elder' (zR11 HO462.out) (Kd.R_base ho0) hb); have n2_ := Aside0.mk (Kd.Q_elder' (by (with_reducible repeat (first | apply Kd.Q_alloc | apply Kd.Q_drewN | apply Kd.Q_drew)); exact HO466.out) (Kd.R_base ho0) hb); have n3_ := Aside0.mk (Kd.Q_elder' (by (with_reducible repeat (first | apply Kd.Q_alloc | apply Kd.Q_drewN | apply Kd.Q_drew)); exact HO471.out) (Kd.R_base ho0) hb); have n4_ := Aside0.mk (Kd.Q_elder' (by (with_reducible repeat (first | apply Kd.Q_alloc | apply Kd.Q_drewN | apply Kd.Q_drew)); exact HO475.out) (Kd.R_base ho0) hb); have n5_ := Aside0.mk (Kd.Q_elder' (by (with_reducible repeat (first | apply Kd.Q_alloc | apply Kd.Q_drewN | apply Kd.Q_drew)); exact HO479.out) (Kd.R_base ho0) hb); have n6_ := Aside0.mk (Kd.R_lower (Kd.R_new' (Kd.R_new' (Kd.R_new' (Kd.R_new' (Kd.R_new' (Kd.R_new' ho0 (Kd.Q_lt (by (with_reducible repeat (first | apply Kd.Q_alloc | apply Kd.Q_drewN | apply Kd.Q_drew)); exact HO459.out))) (Kd.R_lt (zR11 HO462.out))) (Kd.Q_lt (by (with_reducible repeat (first | apply Kd.Q_alloc | apply Kd.Q_drewN | apply Kd.Q_drew)); exact HO466.out))) (Kd.Q_lt (by (with_reducible repeat (first | apply Kd.Q_alloc | apply Kd.Q_drewN | apply Kd.Q_drew)); exact HO471.out))) (Kd.Q_lt (by (with_reducible repeat (first | apply Kd.Q_alloc | apply Kd.Q_drewN | apply Kd.Q_drew)); exact HO475.out))) (Kd.Q_lt (by (with_reducible repeat (first | apply Kd.Q_alloc | apply Kd.Q_drewN | apply Kd.Q_drew)); exact HO479.out))) (below_size (zB11_0))); have n7_ := Aside0.mk (below_step (zB11_0) hb); clear HO459; clear HO462; clear HO466; clear HO471; clear HO475; clear HO479; clear HB; have HO459 := n0_; have HO462 := n1_; have HO466 := n2_; have HO471 := n3_; have HO475 := n4_; have HO479 := n5_; have HO482 := n6_; have HB := n7_; clear n0_ n1_ n2_ n3_ n4_ n5_ n6_ n7_; (try clear hb); (try clear hb2); (try clear hk); (try clear hi); (try clear ho0); obtain ⟨Ao76, co76, eo76⟩ := Kd.R_slice HO462.out; subst eo76; obtain ⟨Ao77, co77, eo77⟩ := Kd.R_slice HO482.out; subst eo77) | ((with_reducible refine gate_callee (f := 13) rfl ?_); refine goesL_ (some 53) rfl rfl Try.func13 (by kernel_rfl) rfl #[.slice Ao76 t460.length co76, .slice Ao77 t480.length co77] rfl zT11 ?_; (with_reducible refine (laws_sameInts.calls k _ _ t460 _ _ t480 true _ ?side1 ?side2 ?side3 ?side4 A19.out).mono ?_); (case side1 => exact zC11 (Kd.R_reads' HO462.out).2.2); (case side2 => exact (Kd.R_reads' HO462.out).2.1); (case side3 => exact zC11 (Kd.R_reads' HO482.out).2.2); (case side4 => exact (Kd.R_reads' HO482.out).2.1); rintro e w' ⟨rfl, ⟨nd, rfl⟩⟩; refine ⟨_, rfl, ?_⟩; obtain ⟨Ao78, co78, eo78, _⟩ := Kd.Q_slice HO466.out; subst eo78) | (go_at_call 15; (with_reducible refine (impl_NextOf.calls k _ _ t463 t464 t484 _ ?side1 ?side2 A21.out).mono ?_); (case side1 => exact zC11 (Kd.Q_reads' HO466.out).2.2); (case side2 => exact (Kd.Q_reads' HO466.out).2.1); rintro e w79 ⟨v485, rfl, ho0, hb⟩; have n0_ := Aside0.mk (Kd.Q_elder' (by (with_reducible repeat (first | apply Kd.Q_alloc | apply Kd.Q_drewN | apply Kd.Q_drew)); exact HO459.out) (Kd.R_base ho0) hb); have n1_ := Aside0.mk (Kd.R_elder' (zR11 HO462.out) (Kd.R_base ho0) hb); have n2_ := Aside0.mk (Kd.Q_elder' (by (with_reducible repeat (first | apply Kd.Q_alloc | apply Kd.Q_drewN | apply Kd.Q_drew)); exact HO466.out) (Kd.R_base ho0) hb); have n3_ := Aside0.mk (Kd.Q_elder' (by (with_reducible repeat (first | apply Kd.Q_alloc | apply Kd.Q_drewN | apply Kd.Q_drew)); exact HO471.out) (Kd.R_base ho0) hb); have n4_ := Aside0.mk (Kd.Q_elder' (by (with_reducible repeat (first | apply Kd.Q_alloc | apply Kd.Q_drewN | apply Kd.Q_drew)); exact HO475.out) (Kd.R_base ho0) hb); have n5_ := Aside0.mk (Kd.Q_elder' (by (with_reducible repeat (first | apply Kd.Q_alloc | apply Kd.Q_drewN | apply Kd.Q_drew)); exact HO479.out) (Kd.R_base ho0) hb); have n6_ := Aside0.mk (Kd.R_elder' (zR11 HO482.out) (Kd.R_base ho0) hb); have n7_ := Aside0.mk (Kd.R_lower (Kd.R_new' (Kd.R_new' (Kd.R_new' (Kd.R_new' (Kd.R_new' (Kd.R_new' (Kd.R_new' ho0 (Kd.Q_lt (by (with_reducible repeat (first | apply Kd.Q_alloc | apply Kd.Q_drewN | apply Kd.Q_drew)); exact HO459.out))) (Kd.R_lt (zR11 HO462.out))) (Kd.Q_lt (by (with_reducible repeat (first | apply Kd.Q_alloc | apply Kd.Q_drewN | apply Kd.Q_drew)); exact HO466.out))) (Kd.Q_lt (by (with_reducible repeat (first | apply Kd.Q_alloc | apply Kd.Q_drewN | apply Kd.Q_drew)); exact HO471.out))) (Kd.Q_lt (by (with_reducible repeat (first | apply Kd.Q_alloc | apply Kd.Q_drewN | apply Kd.Q_drew)); exact HO475.out))) (Kd.Q_lt (by (with_reducible repeat (first | apply Kd.Q_alloc | apply Kd.Q_drewN | apply Kd.Q_drew)); exact HO479.out))) (Kd.R_lt (zR11 HO482.out))) (below_size (zB11_0))); have n8_ := Aside0.mk (below_step (zB11_0) hb); clear HO459; clear HO462; clear HO466; clear HO471; clear HO475; clear HO479; clear HO482; clear HB; have HO459 := n0_; have HO462 := n1_; have HO466 := n2_; have HO471 := n3_; have HO475 := n4_; have HO479 := n5_; have HO482 := n6_; have HO486 := n7_; have HB := n8_; clear n0_ n1_ n2_ n3_ n4_ n5_ n6_ n7_ n8_; (try clear hb); (try clear hb2); (try clear hk); (try clear hi); (try clear ho0)) | (go_at_call 16; (with_reducible refine (spec_NextOf.calls k _ _ t463 t464 t487 _ ?side1 ?side2 A22.out).mono ?_); (case side1 => exact zC11 (Kd.Q_reads' HO466.out).2.2); (case side2 => exact (Kd.Q_reads' HO466.out).2.1); rintro e w80 ⟨v488, rfl, ho0, hb⟩; have n0_ := Aside0.mk (Kd.Q_elder' (by (with_reducible repeat (first | apply Kd.Q_alloc | apply Kd.Q_drewN | apply Kd.Q_drew)); exact HO459.out) (Kd.R_base ho0) hb); have n1_ := Aside0.mk (Kd.R_elder' (zR11 HO462.out) (Kd.R_base ho0) hb); have n2_ := Aside0.mk (Kd.Q_elder' (by (with_reducible repeat (first | apply Kd.Q_alloc | apply Kd.Q_drewN | apply Kd.Q_drew)); exact HO466.out) (Kd.R_base ho0) hb); have n3_ := Aside0.mk (Kd.Q_elder' (by (with_reducible repeat (first | apply Kd.Q_alloc | apply Kd.Q_drewN | apply Kd.Q_drew)); exact HO471.out) (Kd.R_base ho0) hb); have n4_ := Aside0.mk (Kd.Q_elder' (by (with_reducible repeat (first | apply Kd.Q_alloc | apply Kd.Q_drewN | apply Kd.Q_drew)); exact HO475.out) (Kd.R_base ho0) hb); have n5_ := Aside0.mk (Kd.Q_elder' (by (with_reducible repeat (first | apply Kd.Q_alloc | apply Kd.Q_drewN | apply Kd.Q_drew)); exact HO479.out) (Kd.R_base ho0) hb); have n6_ := Aside0.mk (Kd.R_elder' (zR11 HO482.out) (Kd.R_base ho0) hb); have n7_ := Aside0.mk (Kd.R_elder' (zR11 HO486.out) (Kd.R_base ho0) hb); have n8_ := Aside0.mk (Kd.R_lower (Kd.R_new' (Kd.R_new' (Kd.R_new' (Kd.R_new' (Kd.R_new' (Kd.R_new' (Kd.R_new' (Kd.R_new' ho0 (Kd.Q_lt (by (with_reducible repeat (first | apply Kd.Q_alloc | apply Kd.Q_drewN | apply Kd.Q_drew)); exact HO459.out))) (Kd.R_lt (zR11 HO462.out))) (Kd.Q_lt (by (with_reducible repeat (first | apply Kd.Q_alloc | apply Kd.Q_drewN | apply Kd.Q_drew)); exact HO466.out))) (Kd.Q_lt (by (with_reducible repeat (first | apply Kd.Q_alloc | apply Kd.Q_drewN | apply Kd.Q_drew)); exact HO471.out))) (Kd.Q_lt (by (with_reducible repeat (first | apply Kd.Q_alloc | apply Kd.Q_drewN | apply Kd.Q_drew)); exact HO475.out))) (Kd.Q_lt (by (with_reducible repeat (first | apply Kd.Q_alloc | apply Kd.Q_drewN | apply Kd.Q_drew)); exact HO479.out))) (Kd.R_lt (zR11 HO482.out))) (Kd.R_lt (zR11 HO486.out))) (below_size (zB11_0))); have n9_ := Aside0.mk (below_step (zB11_0) hb); clear HO459; clear HO462; clear HO466; clear HO471; clear HO475; clear HO479; clear HO482; clear HO486; clear HB; have HO459 := n0_; have HO462 := n1_; have HO466 := n2_; have HO471 := n3_; have HO475 := n4_; have HO479 := n5_; have HO482 := n6_; have HO486 := n7_; have HO489 := n8_; have HB := n9_; clear n0_ n1_ n2_ n3_ n4_ n5_ n6_ n7_ n8_ n9_; (try clear hb); (try clear hb2); (try clear hk); (try clear hi); (try clear ho0); obtain ⟨Ao81, co81, eo81⟩ := Kd.R_slice HO486.out; subst eo81; obtain ⟨Ao82, co82, eo82⟩ := Kd.R_slice HO489.out; subst eo82) | (go_at_call 13; (with_reducible refine (laws_sameInts.calls k _ _ t484 _ _ t487 false _ ?side1 ?side2 ?side3 ?side4 A23.out).mono ?_); (case side1 => exact zC11 (Kd.R_reads' HO486.out).2.2); (case side2 => exact (Kd.R_reads' HO486.out).2.1); (case side3 => exact zC11 (Kd.R_reads' HO489.out).2.2); (case side4 => exact (Kd.R_reads' HO489.out).2.1); rintro e w' ⟨rfl, ⟨nd, rfl⟩⟩))
   go_meet
   case rel => exact ⟨_, (true), (by first | rfl | (simp; done) | (simp [*]; done)), H', ⟨by first | omega | exact Nat.le_refl _⟩, ⟨by (with_reducible repeat (first | apply Kd.Q_alloc | apply Kd.Q_drewN | apply Kd.Q_drew)); exact Kd.Q_mono HO459.out (fun _ hk => hk.1.1.1.1.1.1.1.2)⟩, ⟨by (with_reducible repeat (first | apply Kd.R_alloc | apply Kd.R_drewN | apply Kd.R_drew)); exact Kd.R_mono HO462.out (fun _ hk => hk.1.1.1.1.1.1.1.2)⟩, ⟨zB11_0⟩⟩
  subst c24
  have H1 : ((impl_LeadsTo.f k t467 t468 t469).bind fun t491 => ((spec_LeadsTo.f k t467 t468 t469).bind fun t492 => (if (t491 != t492) = true then (laws_FnFlows.j0 k t456 t457 t460 true) else ((impl_LoopsFrom.f k t472 t473).bind fun t493 => ((spec_LoopsFrom.f k t472 t473).bind fun t494 => (if (t493 != t494) = true then (laws_FnFlows.j0 k t456 t457 t460 true) else ((impl_WritesFrom.f k t476 t477).bind fun t495 => ((spec_WritesFrom.f k t476 t477).bind fun t496 => (laws_FnFlows.j0 k t456 t457 t460 (t495 != t496)))))))))) = some r := by rw [if_pos rfl] at H; exact H
  clear H
  have H := H1
  clear H1
  replace H := Option.bind_eq_some_iff.mp H
  obtain ⟨t491, A250, H⟩ := H
  replace H : ((spec_LeadsTo.f k t467 t468 t469).bind fun t492 => (if (t491 != t492) = true then (laws_FnFlows.j0 k t456 t457 t460 true) else ((impl_LoopsFrom.f k t472 t473).bind fun t493 => ((spec_LoopsFrom.f k t472 t473).bind fun t494 => (if (t493 != t494) = true then (laws_FnFlows.j0 k t456 t457 t460 true) else ((impl_WritesFrom.f k t476 t477).bind fun t495 => ((spec_WritesFrom.f k t476 t477).bind fun t496 => (laws_FnFlows.j0 k t456 t457 t460 (t495 != t496))))))))) = some r := H
  have A25 := Aside0.mk A250
  clear A250
  replace H := Option.bind_eq_some_iff.mp H
  obtain ⟨t492, A260, H⟩ := H
  replace H : (if (t491 != t492) = true then (laws_FnFlows.j0 k t456 t457 t460 true) else ((impl_LoopsFrom.f k t472 t473).bind fun t493 => ((spec_LoopsFrom.f k t472 t473).bind fun t494 => (if (t493 != t494) = true then (laws_FnFlows.j0 k t456 t457 t460 true) else ((impl_WritesFrom.f k t476 t477).bind fun t495 => ((spec_WritesFrom.f k t476 t477).bind fun t496 => (laws_FnFlows.j0 k t456 t457 t460 (t495 != t496)))))))) = some r := H
  have A26 := Aside0.mk A260
  clear A260
  by_cases c27 : (t491 != t492) = true
  ·rw [if_pos c27] at H
   have c27b0 : (t491 != t492) = true := c27
   (try (have c27b1 : decide (t491 = t492) = false := by simpa using c27))
   (try (have c27b2 : (t491 == t492) = false := by simpa using c27))
   (try (have c27b3 : ¬ (t491 = t492) := by simpa using c27))
   clear c27
   (first | rw [c27b0] | (simp only [i64_w, i32_w]; rw [c27b0]) | skip)
   have H' := Aside0.mk H
   clear H
   go_wp2_with (first | ((with_reducible refine gate_callee (f := 14) rfl ?_); refine goesL_ (some 52) rfl rfl Try.func14 (by kernel_rfl) rfl #[.slice Ao12 t456.length co12, .int .i64 t457] rfl zT11 ?_; (with_reducible refine (spec_ReachOf.calls k _ _ t456 t457 t480 _ ?side1 ?side2 A18.out).mono ?_); (case side1 => exact zC11 (Kd.Q_reads' HO459.out).2.2); (case side2 => exact (Kd.Q_reads' HO459.out).2.1); rintro e w28 ⟨v481, rfl, ho0, hb⟩; refine ⟨_, rfl, ?_⟩; have n0_ := Aside0.mk (Kd.Q_elder' (by (with_reducible repeat (first | apply Kd.Q_alloc | apply Kd.Q_drewN | apply Kd.Q_drew)); exact HO459.out) (Kd.R_base ho0) hb); have n1_ := Aside0.mk (Kd.R_elder' (zR11 HO462.out) (Kd.R_base ho0) hb); have n2_ := Aside0.mk (Kd.Q_elder' (by (with_reducible repeat (first | apply Kd.Q_alloc | apply Kd.Q_drewN | apply Kd.Q_drew)); exact HO466.out) (Kd.R_base ho0) hb); have n3_ := Aside0.mk (Kd.Q_elder' (by (with_reducible repeat (first | apply Kd.Q_alloc | apply Kd.Q_drewN | apply Kd.Q_drew)); exact HO471.out) (Kd.R_base ho0) hb); have n4_ := Aside0.mk (Kd.Q_elder' (by (with_reducible repeat (first | apply Kd.Q_alloc | apply Kd.Q_drewN | apply Kd.Q_drew)); exact HO475.out) (Kd.R_base ho0) hb); have n5_ := Aside0.mk (Kd.Q_elder' (by (with_reducible repeat (first | apply Kd.Q_alloc | apply Kd.Q_drewN | apply Kd.Q_drew)); exact HO479.out) (Kd.R_base ho0) hb); have n6_ := Aside0.mk (Kd.R_lower (Kd.R_new' (Kd.R_new' (Kd.R_new' (Kd.R_new' (Kd.R_new' (Kd.R_new' ho0 (Kd.Q_lt (by (with_reducible repeat (first | apply Kd.Q_alloc | apply Kd.Q_drewN | apply Kd.Q_drew)); exact HO459.out))) (Kd.R_lt (zR11 HO462.out))) (Kd.Q_lt (by (with_reducible repeat (first | apply Kd.Q_alloc | apply Kd.Q_drewN | apply Kd.Q_drew)); exact HO466.out))) (Kd.Q_lt (by (with_reducible repeat (first | apply Kd.Q_alloc | apply Kd.Q_drewN | apply Kd.Q_drew)); exact HO471.out))) (Kd.Q_lt (by (with_reducible repeat (first | apply Kd.Q_alloc | apply Kd.Q_drewN | apply Kd.Q_drew)); exact HO475.out))) (Kd.Q_lt (by (with_reducible repeat (first | apply Kd.Q_alloc | apply Kd.Q_drewN | apply Kd.Q_drew)); exact HO479.out))) (below_size (zB11_0))); have n7_ := Aside0.mk (below_step (zB11_0) hb); clear HO459; clear HO462; clear HO466; clear HO471; clear HO475; clear HO479; clear HB; have HO459 := n0_; have HO462 := n1_; have HO466 := n2_; have HO471 := n3_; have HO475 := n4_; have HO479 := n5_; have HO482 := n6_; have HB := n7_; clear n0_ n1_ n2_ n3_ n4_ n5_ n6_ n7_; (try clear hb); (try clear hb2); (try clear hk); (try clear hi); (try clear ho0); obtain ⟨Ao29, co29, eo29⟩ := Kd.R_slice HO462.out; subst eo29; obtain ⟨Ao30, co30, eo30⟩ := Kd.R_slice HO482.out; subst eo30) | ((with_reducible refine gate_callee (f := 13) rfl ?_); refine goesL_ (some 53) rfl rfl Try.func13 (by kernel_rfl) rfl #[.slice Ao29 t460.length co29, .slice Ao30 t480.length co30] rfl zT11 ?_; (with_reducible refine (laws_sameInts.calls k _ _ t460 _ _ t480 true _ ?side1 ?side2 ?side3 ?side4 A19.out).mono ?_); (case side1 => exact zC11 (Kd.R_reads' HO462.out).2.2); (case side2 => exact (Kd.R_reads' HO462.out).2.1); (case side3 => exact zC11 (Kd.R_reads' HO482.out).2.2); (case side4 => exact (Kd.R_reads' HO482.out).2.1); rintro e w' ⟨rfl, ⟨nd, rfl⟩⟩; refine ⟨_, rfl, ?_⟩; obtain ⟨Ao31, co31, eo31, _⟩ := Kd.Q_slice HO466.out; subst eo31) | (go_at_call 15; (with_reducible refine (impl_NextOf.calls k _ _ t463 t464 t484 _ ?side1 ?side2 A21.out).mono ?_); (case side1 => exact zC11 (Kd.Q_reads' HO466.out).2.2); (case side2 => exact (Kd.Q_reads' HO466.out).2.1); rintro e w32 ⟨v485, rfl, ho0, hb⟩; have n0_ := Aside0.mk (Kd.Q_elder' (by (with_reducible repeat (first | apply Kd.Q_alloc | apply Kd.Q_drewN | apply Kd.Q_drew)); exact HO459.out) (Kd.R_base ho0) hb); have n1_ := Aside0.mk (Kd.R_elder' (zR11 HO462.out) (Kd.R_base ho0) hb); have n2_ := Aside0.mk (Kd.Q_elder' (by (with_reducible repeat (first | apply Kd.Q_alloc | apply Kd.Q_drewN | apply Kd.Q_drew)); exact HO466.out) (Kd.R_base ho0) hb); have n3_ := Aside0.mk (Kd.Q_elder' (by (with_reducible repeat (first | apply Kd.Q_alloc | apply Kd.Q_drewN | apply Kd.Q_drew)); exact HO471.out) (Kd.R_base ho0) hb); have n4_ := Aside0.mk (Kd.Q_elder' (by (with_reducible repeat (first | apply Kd.Q_alloc | apply Kd.Q_drewN | apply Kd.Q_drew)); exact HO475.out) (Kd.R_base ho0) hb); have n5_ := Aside0.mk (Kd.Q_elder' (by (with_reducible repeat (first | apply Kd.Q_alloc | apply Kd.Q_drewN | apply Kd.Q_drew)); exact HO479.out) (Kd.R_base ho0) hb); have n6_ := Aside0.mk (Kd.R_elder' (zR11 HO482.out) (Kd.R_base ho0) hb); have n7_ := Aside0.mk (Kd.R_lower (Kd.R_new' (Kd.R_new' (Kd.R_new' (Kd.R_new' (Kd.R_new' (Kd.R_new' (Kd.R_new' ho0 (Kd.Q_lt (by (with_reducible repeat (first | apply Kd.Q_alloc | apply Kd.Q_drewN | apply Kd.Q_drew)); exact HO459.out))) (Kd.R_lt (zR11 HO462.out))) (Kd.Q_lt (by (with_reducible repeat (first | apply Kd.Q_alloc | apply Kd.Q_drewN | apply Kd.Q_drew)); exact HO466.out))) (Kd.Q_lt (by (with_reducible repeat (first | apply Kd.Q_alloc | apply Kd.Q_drewN | apply Kd.Q_drew)); exact HO471.out))) (Kd.Q_lt (by (with_reducible repeat (first | apply Kd.Q_alloc | apply Kd.Q_drewN | apply Kd.Q_drew)); exact HO475.out))) (Kd.Q_lt (by (with_reducible repeat (first | apply Kd.Q_alloc | apply Kd.Q_drewN | apply Kd.Q_drew)); exact HO479.out))) (Kd.R_lt (zR11 HO482.out))) (below_size (zB11_0))); have n8_ := Aside0.mk (below_step (zB11_0) hb); clear HO459; clear HO462; clear HO466; clear HO471; clear HO475; clear HO479; clear HO482; clear HB; have HO459 := n0_; have HO462 := n1_; have HO466 := n2_; have HO471 := n3_; have HO475 := n4_; have HO479 := n5_; have HO482 := n6_; have HO486 := n7_; have HB := n8_; clear n0_ n1_ n2_ n3_ n4_ n5_ n6_ n7_ n8_; (try clear hb); (try clear hb2); (try clear hk); (try clear hi); (try clear ho0)) | (go_at_call 16; (with_reducible refine (spec_NextOf.calls k _ _ t463 t464 t487 _ ?side1 ?side2 A22.out).mono ?_); (case side1 => exact zC11 (Kd.Q_reads' HO466.out).2.2); (case side2 => exact (Kd.Q_reads' HO466.out).2.1); rintro e w33 ⟨v488, rfl, ho0, hb⟩; have n0_ := Aside0.mk (Kd.Q_elder' (by (with_reducible repeat (first | apply Kd.Q_alloc | apply Kd.Q_drewN | apply Kd.Q_drew)); exact HO459.out) (Kd.R_base ho0) hb); have n1_ := Aside0.mk (Kd.R_elder' (zR11 HO462.out) (Kd.R_base ho0) hb); have n2_ := Aside0.mk (Kd.Q_elder' (by (with_reducible repeat (first | apply Kd.Q_alloc | apply Kd.Q_drewN | apply Kd.Q_drew)); exact HO466.out) (Kd.R_base ho0) hb); have n3_ := Aside0.mk (Kd.Q_elder' (by (with_reducible repeat (first | apply Kd.Q_alloc | apply Kd.Q_drewN | apply Kd.Q_drew)); exact HO471.out) (Kd.R_base ho0) hb); have n4_ := Aside0.mk (Kd.Q_elder' (by (with_reducible repeat (first | apply Kd.Q_alloc | apply Kd.Q_drewN | apply Kd.Q_drew)); exact HO475.out) (Kd.R_base ho0) hb); have n5_ := Aside0.mk (Kd.Q_elder' (by (with_reducible repeat (first | apply Kd.Q_alloc | apply Kd.Q_drewN | apply Kd.Q_drew)); exact HO479.out) (Kd.R_base ho0) hb); have n6_ := Aside0.mk (Kd.R_elder' (zR11 HO482.out) (Kd.R_base ho0) hb); have n7_ := Aside0.mk (Kd.R_elder' (zR11 HO486.out) (Kd.R_base ho0) hb); have n8_ := Aside0.mk (Kd.R_lower (Kd.R_new' (Kd.R_new' (Kd.R_new' (Kd.R_new' (Kd.R_new' (Kd.R_new' (Kd.R_new' (Kd.R_new' ho0 (Kd.Q_lt (by (with_reducible repeat (first | apply Kd.Q_alloc | apply Kd.Q_drewN | apply Kd.Q_drew)); exact HO459.out))) (Kd.R_lt (zR11 HO462.out))) (Kd.Q_lt (by (with_reducible repeat (first | apply Kd.Q_alloc | apply Kd.Q_drewN | apply Kd.Q_drew)); exact HO466.out))) (Kd.Q_lt (by (with_reducible repeat (first | apply Kd.Q_alloc | apply Kd.Q_drewN | apply Kd.Q_drew)); exact HO471.out))) (Kd.Q_lt (by (with_reducible repeat (first | apply Kd.Q_alloc | apply Kd.Q_drewN | apply Kd.Q_drew)); exact HO475.out))) (Kd.Q_lt (by (with_reducible repeat (first | apply Kd.Q_alloc | apply Kd.Q_drewN | apply Kd.Q_drew)); exact HO479.out))) (Kd.R_lt (zR11 HO482.out))) (Kd.R_lt (zR11 HO486.out))) (below_size (zB11_0))); have n9_ := Aside0.mk (below_step (zB11_0) hb); clear HO459; clear HO462; clear HO466; clear HO471; clear HO475; clear HO479; clear HO482; clear HO486; clear HB; have HO459 := n0_; have HO462 := n1_; have HO466 := n2_; have HO471 := n3_; have HO475 := n4_; have HO479 := n5_; have HO482 := n6_; have HO486 := n7_; have HO489 := n8_; have HB := n9_; clear n0_ n1_ n2_ n3_ n4_ n5_ n6_ n7_ n8_ n9_; (try clear hb); (try clear hb2); (try clear hk); (try clear hi); (try clear ho0); obtain ⟨Ao34, co34, eo34⟩ := Kd.R_slice HO486.out; subst eo34; obtain ⟨Ao35, co35, eo35⟩ := Kd.R_slice HO489.out; subst eo35) | (go_at_call 13; (with_reducible refine (laws_sameInts.calls k _ _ t484 _ _ t487 true _ ?side1 ?side2 ?side3 ?side4 A23.out).mono ?_); (case side1 => exact zC11 (Kd.R_reads' HO486.out).2.2); (case side2 => exact (Kd.R_reads' HO486.out).2.1); (case side3 => exact zC11 (Kd.R_reads' HO489.out).2.2); (case side4 => exact (Kd.R_reads' HO489.out).2.1); rintro e w' ⟨rfl, ⟨nd, rfl⟩⟩; obtain ⟨Ao36, co36, eo36, _⟩ := Kd.Q_slice HO471.out; subst eo36) | (go_at_call 17; (with_reducible refine (impl_LeadsTo.calls k _ _ t467 t468 t469 t491 _ ?side1 ?side2 A25.out).mono ?_); (case side1 => exact zC11 (Kd.Q_reads' HO471.out).2.2); (case side2 => exact (Kd.Q_reads' HO471.out).2.1); rintro e w37 ⟨rfl, hb⟩; have n0_ := Aside0.mk (Kd.Q_below (by (with_reducible repeat (first | apply Kd.Q_alloc | apply Kd.Q_drewN | apply Kd.Q_drew)); exact HO459.out) hb); have n1_ := Aside0.mk (Kd.R_below (zR11 HO462.out) hb); have n2_ := Aside0.mk (Kd.Q_below (by (with_reducible repeat (first | apply Kd.Q_alloc | apply Kd.Q_drewN | apply Kd.Q_drew)); exact HO466.out) hb); have n3_ := Aside0.mk (Kd.Q_below (by (with_reducible repeat (first | apply Kd.Q_alloc | apply Kd.Q_drewN | apply Kd.Q_drew)); exact HO471.out) hb); have n4_ := Aside0.mk (Kd.Q_below (by (with_reducible repeat (first | apply Kd.Q_alloc | apply Kd.Q_drewN | apply Kd.Q_drew)); exact HO475.out) hb); have n5_ := Aside0.mk (Kd.Q_below (by (with_reducible repeat (first | apply Kd.Q_alloc | apply Kd.Q_drewN | apply Kd.Q_drew)); exact HO479.out) hb); have n6_ := Aside0.mk (Kd.R_below (zR11 HO482.out) hb); have n7_ := Aside0.mk (Kd.R_below (zR11 HO486.out) hb); have n8_ := Aside0.mk (Kd.R_below (zR11 HO489.out) hb); have n9_ := Aside0.mk (below_step (zB11_0) hb); clear HO459; clear HO462; clear HO466; clear HO471; clear HO475; clear HO479; clear HO482; clear HO486; clear HO489; clear HB; have HO459 := n0_; have HO462 := n1_; have HO466 := n2_; have HO471 := n3_; have HO475 := n4_; have HO479 := n5_; have HO482 := n6_; have HO486 := n7_; have HO489 := n8_; have HB := n9_; clear n0_ n1_ n2_ n3_ n4_ n5_ n6_ n7_ n8_ n9_; (try clear hb); (try clear hb2); (try clear hk); (try clear hi)) | (go_at_call 18; (with_reducible refine (spec_LeadsTo.calls k _ _ t467 t468 t469 t492 _ ?side1 ?side2 A26.out).mono ?_); (case side1 => exact zC11 (Kd.Q_reads' HO471.out).2.2); (case side2 => exact (Kd.Q_reads' HO471.out).2.1); rintro e w38 ⟨rfl, hb⟩; have n0_ := Aside0.mk (Kd.Q_below (by (with_reducible repeat (first | apply Kd.Q_alloc | apply Kd.Q_drewN | apply Kd.Q_drew)); exact HO459.out) hb); have n1_ := Aside0.mk (Kd.R_below (zR11 HO462.out) hb); have n2_ := Aside0.mk (Kd.Q_below (by (with_reducible repeat (first | apply Kd.Q_alloc | apply Kd.Q_drewN | apply Kd.Q_drew)); exact HO466.out) hb); have n3_ := Aside0.mk (Kd.Q_below (by (with_reducible repeat (first | apply Kd.Q_alloc | apply Kd.Q_drewN | apply Kd.Q_drew)); exact HO471.out) hb); have n4_ := Aside0.mk (Kd.Q_below (by (with_reducible repeat (first | apply Kd.Q_alloc | apply Kd.Q_drewN | apply Kd.Q_drew)); exact HO475.out) hb); have n5_ := Aside0.mk (Kd.Q_below (by (with_reducible repeat (first | apply Kd.Q_alloc | apply Kd.Q_drewN | apply Kd.Q_drew)); exact HO479.out) hb); have n6_ := Aside0.mk (Kd.R_below (zR11 HO482.out) hb); have n7_ := Aside0.mk (Kd.R_below (zR11 HO486.out) hb); have n8_ := Aside0.mk (Kd.R_below (zR11 HO489.out) hb); have n9_ := Aside0.mk (below_step (zB11_0) hb); clear HO459; clear HO462; clear HO466; clear HO471; clear HO475; clear HO479; clear HO482; clear HO486; clear HO489; clear HB; have HO459 := n0_; have HO462 := n1_; have HO466 := n2_; have HO471 := n3_; have HO475 := n4_; have HO479 := n5_; have HO482 := n6_; have HO486 := n7_; have HO489 := n8_; have HB := n9_; clear n0_ n1_ n2_ n3_ n4_ n5_ n6_ n7_ n8_ n9_; (try clear hb); (try clear hb2); (try clear hk); (try clear hi)))
   go_meet
   case rel => exact ⟨_, (true), (by first | rfl | (simp; done) | (simp [*]; done)), H', ⟨by first | omega | exact Nat.le_refl _⟩, ⟨by (with_reducible repeat (first | apply Kd.Q_alloc | apply Kd.Q_drewN | apply Kd.Q_drew)); exact Kd.Q_mono HO459.out (fun _ hk => hk.1.1.1.1.1.1.1.2)⟩, ⟨by (with_reducible repeat (first | apply Kd.R_alloc | apply Kd.R_drewN | apply Kd.R_drew)); exact Kd.R_mono HO462.out (fun _ hk => hk.1.1.1.1.1.1.1.2)⟩, ⟨zB11_0⟩⟩
  rw [if_neg c27] at H
  have c27b0 : (t491 != t492) = false := by simpa using c27
  (try (have c27b1 : decide (t491 = t492) = true := by simpa using c27))
  (try (have c27b2 : (t491 == t492) = true := by simpa using c27))
  clear c27
  (first | rw [c27b0] | (simp only [i64_w, i32_w]; rw [c27b0]) | skip)
  replace H := Option.bind_eq_some_iff.mp H
  obtain ⟨t493, A390, H⟩ := H
  replace H : ((spec_LoopsFrom.f k t472 t473).bind fun t494 => (if (t493 != t494) = true then (laws_FnFlows.j0 k t456 t457 t460 true) else ((impl_WritesFrom.f k t476 t477).bind fun t495 => ((spec_WritesFrom.f k t476 t477).bind fun t496 => (laws_FnFlows.j0 k t456 t457 t460 (t495 != t496)))))) = some r := H
  have A39 := Aside0.mk A390
  clear A390
  replace H := Option.bind_eq_some_iff.mp H
  obtain ⟨t494, A400, H⟩ := H
  replace H : (if (t493 != t494) = true then (laws_FnFlows.j0 k t456 t457 t460 true) else ((impl_WritesFrom.f k t476 t477).bind fun t495 => ((spec_WritesFrom.f k t476 t477).bind fun t496 => (laws_FnFlows.j0 k t456 t457 t460 (t495 != t496))))) = some r := H
  have A40 := Aside0.mk A400
  clear A400
  by_cases c41 : (t493 != t494) = true
  ·rw [if_pos c41] at H
   have c41b0 : (t493 != t494) = true := c41
   (try (have c41b1 : decide (t493 = t494) = false := by simpa using c41))
   (try (have c41b2 : (t493 == t494) = false := by simpa using c41))
   (try (have c41b3 : ¬ (t493 = t494) := by simpa using c41))
   clear c41
   have H' := Aside0.mk H
   clear H
   go_wp2_with (first | ((with_reducible refine gate_callee (f := 14) rfl ?_); refine goesL_ (some 52) rfl rfl Try.func14 (by kernel_rfl) rfl #[.slice Ao12 t456.length co12, .int .i64 t457] rfl zT11 ?_; (with_reducible refine (spec_ReachOf.calls k _ _ t456 t457 t480 _ ?side1 ?side2 A18.out).mono ?_); (case side1 => exact zC11 (Kd.Q_reads' HO459.out).2.2); (case side2 => exact (Kd.Q_reads' HO459.out).2.1); rintro e w42 ⟨v481, rfl, ho0, hb⟩; refine ⟨_, rfl, ?_⟩; have n0_ := Aside0.mk (Kd.Q_elder' (by (with_reducible repeat (first | apply Kd.Q_alloc | apply Kd.Q_drewN | apply Kd.Q_drew)); exact HO459.out) (Kd.R_base ho0) hb); have n1_ := Aside0.mk (Kd.R_elder' (zR11 HO462.out) (Kd.R_base ho0) hb); have n2_ := Aside0.mk (Kd.Q_elder' (by (with_reducible repeat (first | apply Kd.Q_alloc | apply Kd.Q_drewN | apply Kd.Q_drew)); exact HO466.out) (Kd.R_base ho0) hb); have n3_ := Aside0.mk (Kd.Q_elder' (by (with_reducible repeat (first | apply Kd.Q_alloc | apply Kd.Q_drewN | apply Kd.Q_drew)); exact HO471.out) (Kd.R_base ho0) hb); have n4_ := Aside0.mk (Kd.Q_elder' (by (with_reducible repeat (first | apply Kd.Q_alloc | apply Kd.Q_drewN | apply Kd.Q_drew)); exact HO475.out) (Kd.R_base ho0) hb); have n5_ := Aside0.mk (Kd.Q_elder' (by (with_reducible repeat (first | apply Kd.Q_alloc | apply Kd.Q_drewN | apply Kd.Q_drew)); exact HO479.out) (Kd.R_base ho0) hb); have n6_ := Aside0.mk (Kd.R_lower (Kd.R_new' (Kd.R_new' (Kd.R_new' (Kd.R_new' (Kd.R_new' (Kd.R_new' ho0 (Kd.Q_lt (by (with_reducible repeat (first | apply Kd.Q_alloc | apply Kd.Q_drewN | apply Kd.Q_drew)); exact HO459.out))) (Kd.R_lt (zR11 HO462.out))) (Kd.Q_lt (by (with_reducible repeat (first | apply Kd.Q_alloc | apply Kd.Q_drewN | apply Kd.Q_drew)); exact HO466.out))) (Kd.Q_lt (by (with_reducible repeat (first | apply Kd.Q_alloc | apply Kd.Q_drewN | apply Kd.Q_drew)); exact HO471.out))) (Kd.Q_lt (by (with_reducible repeat (first | apply Kd.Q_alloc | apply Kd.Q_drewN | apply Kd.Q_drew)); exact HO475.out))) (Kd.Q_lt (by (with_reducible repeat (first | apply Kd.Q_alloc | apply Kd.Q_drewN | apply Kd.Q_drew)); exact HO479.out))) (below_size (zB11_0))); have n7_ := Aside0.mk (below_step (zB11_0) hb); clear HO459; clear HO462; clear HO466; clear HO471; clear HO475; clear HO479; clear HB; have HO459 := n0_; have HO462 := n1_; have HO466 := n2_; have HO471 := n3_; have HO475 := n4_; have HO479 := n5_; have HO482 := n6_; have HB := n7_; clear n0_ n1_ n2_ n3_ n4_ n5_ n6_ n7_; (try clear hb); (try clear hb2); (try clear hk); (try clear hi); (try clear ho0); obtain ⟨Ao43, co43, eo43⟩ := Kd.R_slice HO462.out; subst eo43; obtain ⟨Ao44, co44, eo44⟩ := Kd.R_slice HO482.out; subst eo44) | ((with_reducible refine gate_callee (f := 13) rfl ?_); refine goesL_ (some 53) rfl rfl Try.func13 (by kernel_rfl) rfl #[.slice Ao43 t460.length co43, .slice Ao44 t480.length co44] rfl zT11 ?_; (with_reducible refine (laws_sameInts.calls k _ _ t460 _ _ t480 true _ ?side1 ?side2 ?side3 ?side4 A19.out).mono ?_); (case side1 => exact zC11 (Kd.R_reads' HO462.out).2.2); (case side2 => exact (Kd.R_reads' HO462.out).2.1); (case side3 => exact zC11 (Kd.R_reads' HO482.out).2.2); (case side4 => exact (Kd.R_reads' HO482.out).2.1); rintro e w' ⟨rfl, ⟨nd, rfl⟩⟩; refine ⟨_, rfl, ?_⟩; obtain ⟨Ao45, co45, eo45, _⟩ := Kd.Q_slice HO466.out; subst eo45) | (go_at_call 15; (with_reducible refine (impl_NextOf.calls k _ _ t463 t464 t484 _ ?side1 ?side2 A21.out).mono ?_); (case side1 => exact zC11 (Kd.Q_reads' HO466.out).2.2); (case side2 => exact (Kd.Q_reads' HO466.out).2.1); rintro e w46 ⟨v485, rfl, ho0, hb⟩; have n0_ := Aside0.mk (Kd.Q_elder' (by (with_reducible repeat (first | apply Kd.Q_alloc | apply Kd.Q_drewN | apply Kd.Q_drew)); exact HO459.out) (Kd.R_base ho0) hb); have n1_ := Aside0.mk (Kd.R_elder' (zR11 HO462.out) (Kd.R_base ho0) hb); have n2_ := Aside0.mk (Kd.Q_elder' (by (with_reducible repeat (first | apply Kd.Q_alloc | apply Kd.Q_drewN | apply Kd.Q_drew)); exact HO466.out) (Kd.R_base ho0) hb); have n3_ := Aside0.mk (Kd.Q_elder' (by (with_reducible repeat (first | apply Kd.Q_alloc | apply Kd.Q_drewN | apply Kd.Q_drew)); exact HO471.out) (Kd.R_base ho0) hb); have n4_ := Aside0.mk (Kd.Q_elder' (by (with_reducible repeat (first | apply Kd.Q_alloc | apply Kd.Q_drewN | apply Kd.Q_drew)); exact HO475.out) (Kd.R_base ho0) hb); have n5_ := Aside0.mk (Kd.Q_elder' (by (with_reducible repeat (first | apply Kd.Q_alloc | apply Kd.Q_drewN | apply Kd.Q_drew)); exact HO479.out) (Kd.R_base ho0) hb); have n6_ := Aside0.mk (Kd.R_elder' (zR11 HO482.out) (Kd.R_base ho0) hb); have n7_ := Aside0.mk (Kd.R_lower (Kd.R_new' (Kd.R_new' (Kd.R_new' (Kd.R_new' (Kd.R_new' (Kd.R_new' (Kd.R_new' ho0 (Kd.Q_lt (by (with_reducible repeat (first | apply Kd.Q_alloc | apply Kd.Q_drewN | apply Kd.Q_drew)); exact HO459.out))) (Kd.R_lt (zR11 HO462.out))) (Kd.Q_lt (by (with_reducible repeat (first | apply Kd.Q_alloc | apply Kd.Q_drewN | apply Kd.Q_drew)); exact HO466.out))) (Kd.Q_lt (by (with_reducible repeat (first | apply Kd.Q_alloc | apply Kd.Q_drewN | apply Kd.Q_drew)); exact HO471.out))) (Kd.Q_lt (by (with_reducible repeat (first | apply Kd.Q_alloc | apply Kd.Q_drewN | apply Kd.Q_drew)); exact HO475.out))) (Kd.Q_lt (by (with_reducible repeat (first | apply Kd.Q_alloc | apply Kd.Q_drewN | apply Kd.Q_drew)); exact HO479.out))) (Kd.R_lt (zR11 HO482.out))) (below_size (zB11_0))); have n8_ := Aside0.mk (below_step (zB11_0) hb); clear HO459; clear HO462; clear HO466; clear HO471; clear HO475; clear HO479; clear HO482; clear HB; have HO459 := n0_; have HO462 := n1_; have HO466 := n2_; have HO471 := n3_; have HO475 := n4_; have HO479 := n5_; have HO482 := n6_; have HO486 := n7_; have HB := n8_; clear n0_ n1_ n2_ n3_ n4_ n5_ n6_ n7_ n8_; (try clear hb); (try clear hb2); (try clear hk); (try clear hi); (try clear ho0)) | (go_at_call 16; (with_reducible refine (spec_NextOf.calls k _ _ t463 t464 t487 _ ?side1 ?side2 A22.out).mono ?_); (case side1 => exact zC11 (Kd.Q_reads' HO466.out).2.2); (case side2 => exact (Kd.Q_reads' HO466.out).2.1); rintro e w47 ⟨v488, rfl, ho0, hb⟩; have n0_ := Aside0.mk (Kd.Q_elder' (by (with_reducible repeat (first | apply Kd.Q_alloc | apply Kd.Q_drewN | apply Kd.Q_drew)); exact HO459.out) (Kd.R_base ho0) hb); have n1_ := Aside0.mk (Kd.R_elder' (zR11 HO462.out) (Kd.R_base ho0) hb); have n2_ := Aside0.mk (Kd.Q_elder' (by (with_reducible repeat (first | apply Kd.Q_alloc | apply Kd.Q_drewN | apply Kd.Q_drew)); exact HO466.out) (Kd.R_base ho0) hb); have n3_ := Aside0.mk (Kd.Q_elder' (by (with_reducible repeat (first | apply Kd.Q_alloc | apply Kd.Q_drewN | apply Kd.Q_drew)); exact HO471.out) (Kd.R_base ho0) hb); have n4_ := Aside0.mk (Kd.Q_elder' (by (with_reducible repeat (first | apply Kd.Q_alloc | apply Kd.Q_drewN | apply Kd.Q_drew)); exact HO475.out) (Kd.R_base ho0) hb); have n5_ := Aside0.mk (Kd.Q_elder' (by (with_reducible repeat (first | apply Kd.Q_alloc | apply Kd.Q_drewN | apply Kd.Q_drew)); exact HO479.out) (Kd.R_base ho0) hb); have n6_ := Aside0.mk (Kd.R_elder' (zR11 HO482.out) (Kd.R_base ho0) hb); have n7_ := Aside0.mk (Kd.R_elder' (zR11 HO486.out) (Kd.R_base ho0) hb); have n8_ := Aside0.mk (Kd.R_lower (Kd.R_new' (Kd.R_new' (Kd.R_new' (Kd.R_new' (Kd.R_new' (Kd.R_new' (Kd.R_new' (Kd.R_new' ho0 (Kd.Q_lt (by (with_reducible repeat (first | apply Kd.Q_alloc | apply Kd.Q_drewN | apply Kd.Q_drew)); exact HO459.out))) (Kd.R_lt (zR11 HO462.out))) (Kd.Q_lt (by (with_reducible repeat (first | apply Kd.Q_alloc | apply Kd.Q_drewN | apply Kd.Q_drew)); exact HO466.out))) (Kd.Q_lt (by (with_reducible repeat (first | apply Kd.Q_alloc | apply Kd.Q_drewN | apply Kd.Q_drew)); exact HO471.out))) (Kd.Q_lt (by (with_reducible repeat (first | apply Kd.Q_alloc | apply Kd.Q_drewN | apply Kd.Q_drew)); exact HO475.out))) (Kd.Q_lt (by (with_reducible repeat (first | apply Kd.Q_alloc | apply Kd.Q_drewN | apply Kd.Q_drew)); exact HO479.out))) (Kd.R_lt (zR11 HO482.out))) (Kd.R_lt (zR11 HO486.out))) (below_size (zB11_0))); have n9_ := Aside0.mk (below_step (zB11_0) hb); clear HO459; clear HO462; clear HO466; clear HO471; clear HO475; clear HO479; clear HO482; clear HO486; clear HB; have HO459 := n0_; have HO462 := n1_; have HO466 := n2_; have HO471 := n3_; have HO475 := n4_; have HO479 := n5_; have HO482 := n6_; have HO486 := n7_; have HO489 := n8_; have HB := n9_; clear n0_ n1_ n2_ n3_ n4_ n5_ n6_ n7_ n8_ n9_; (try clear hb); (try clear hb2); (try clear hk); (try clear hi); (try clear ho0); obtain ⟨Ao48, co48, eo48⟩ := Kd.R_slice HO486.out; subst eo48; obtain ⟨Ao49, co49, eo49⟩ := Kd.R_slice HO489.out; subst eo49) | (go_at_call 13; (with_reducible refine (laws_sameInts.calls k _ _ t484 _ _ t487 true _ ?side1 ?side2 ?side3 ?side4 A23.out).mono ?_); (case side1 => exact zC11 (Kd.R_reads' HO486.out).2.2); (case side2 => exact (Kd.R_reads' HO486.out).2.1); (case side3 => exact zC11 (Kd.R_reads' HO489.out).2.2); (case side4 => exact (Kd.R_reads' HO489.out).2.1); rintro e w' ⟨rfl, ⟨nd, rfl⟩⟩; obtain ⟨Ao50, co50, eo50, _⟩ := Kd.Q_slice HO471.out; subst eo50) | (go_at_call 17; (with_reducible refine (impl_LeadsTo.calls k _ _ t467 t468 t469 t491 _ ?side1 ?side2 A25.out).mono ?_); (case side1 => exact zC11 (Kd.Q_reads' HO471.out).2.2); (case side2 => exact (Kd.Q_reads' HO471.out).2.1); rintro e w51 ⟨rfl, hb⟩; have n0_ := Aside0.mk (Kd.Q_below (by (with_reducible repeat (first | apply Kd.Q_alloc | apply Kd.Q_drewN | apply Kd.Q_drew)); exact HO459.out) hb); have n1_ := Aside0.mk (Kd.R_below (zR11 HO462.out) hb); have n2_ := Aside0.mk (Kd.Q_below (by (with_reducible repeat (first | apply Kd.Q_alloc | apply Kd.Q_drewN | apply Kd.Q_drew)); exact HO466.out) hb); have n3_ := Aside0.mk (Kd.Q_below (by (with_reducible repeat (first | apply Kd.Q_alloc | apply Kd.Q_drewN | apply Kd.Q_drew)); exact HO471.out) hb); have n4_ := Aside0.mk (Kd.Q_below (by (with_reducible repeat (first | apply Kd.Q_alloc | apply Kd.Q_drewN | apply Kd.Q_drew)); exact HO475.out) hb); have n5_ := Aside0.mk (Kd.Q_below (by (with_reducible repeat (first | apply Kd.Q_alloc | apply Kd.Q_drewN | apply Kd.Q_drew)); exact HO479.out) hb); have n6_ := Aside0.mk (Kd.R_below (zR11 HO482.out) hb); have n7_ := Aside0.mk (Kd.R_below (zR11 HO486.out) hb); have n8_ := Aside0.mk (Kd.R_below (zR11 HO489.out) hb); have n9_ := Aside0.mk (below_step (zB11_0) hb); clear HO459; clear HO462; clear HO466; clear HO471; clear HO475; clear HO479; clear HO482; clear HO486; clear HO489; clear HB; have HO459 := n0_; have HO462 := n1_; have HO466 := n2_; have HO471 := n3_; have HO475 := n4_; have HO479 := n5_; have HO482 := n6_; have HO486 := n7_; have HO489 := n8_; have HB := n9_; clear n0_ n1_ n2_ n3_ n4_ n5_ n6_ n7_ n8_ n9_; (try clear hb); (try clear hb2); (try clear hk); (try clear hi)) | (go_at_call 18; (with_reducible refine (spec_LeadsTo.calls k _ _ t467 t468 t469 t492 _ ?side1 ?side2 A26.out).mono ?_); (case side1 => exact zC11 (Kd.Q_reads' HO471.out).2.2); (case side2 => exact (Kd.Q_reads' HO471.out).2.1); rintro e w52 ⟨rfl, hb⟩; have n0_ := Aside0.mk (Kd.Q_below (by (with_reducible repeat (first | apply Kd.Q_alloc | apply Kd.Q_drewN | apply Kd.Q_drew)); exact HO459.out) hb); have n1_ := Aside0.mk (Kd.R_below (zR11 HO462.out) hb); have n2_ := Aside0.mk (Kd.Q_below (by (with_reducible repeat (first | apply Kd.Q_alloc | apply Kd.Q_drewN | apply Kd.Q_drew)); exact HO466.out) hb); have n3_ := Aside0.mk (Kd.Q_below (by (with_reducible repeat (first | apply Kd.Q_alloc | apply Kd.Q_drewN | apply Kd.Q_drew)); exact HO471.out) hb); have n4_ := Aside0.mk (Kd.Q_below (by (with_reducible repeat (first | apply Kd.Q_alloc | apply Kd.Q_drewN | apply Kd.Q_drew)); exact HO475.out) hb); have n5_ := Aside0.mk (Kd.Q_below (by (with_reducible repeat (first | apply Kd.Q_alloc | apply Kd.Q_drewN | apply Kd.Q_drew)); exact HO479.out) hb); have n6_ := Aside0.mk (Kd.R_below (zR11 HO482.out) hb); have n7_ := Aside0.mk (Kd.R_below (zR11 HO486.out) hb); have n8_ := Aside0.mk (Kd.R_below (zR11 HO489.out) hb); have n9_ := Aside0.mk (below_step (zB11_0) hb); clear HO459; clear HO462; clear HO466; clear HO471; clear HO475; clear HO479; clear HO482; clear HO486; clear HO489; clear HB; have HO459 := n0_; have HO462 := n1_; have HO466 := n2_; have HO471 := n3_; have HO475 := n4_; have HO479 := n5_; have HO482 := n6_; have HO486 := n7_; have HO489 := n8_; have HB := n9_; clear n0_ n1_ n2_ n3_ n4_ n5_ n6_ n7_ n8_ n9_; (try clear hb); (try clear hb2); (try clear hk); (try clear hi); obtain ⟨Ao53, co53, eo53, _⟩ := Kd.Q_slice HO475.out; subst eo53) | (go_at_call 19; (with_reducible refine (impl_LoopsFrom.calls k _ _ t472 t473 t493 _ ?side1 ?side2 A39.out).mono ?_); (case side1 => exact zC11 (Kd.Q_reads' HO475.out).2.2); (case side2 => exact (Kd.Q_reads' HO475.out).2.1); rintro e w54 ⟨rfl, hb⟩; have n0_ := Aside0.mk (Kd.Q_below (by (with_reducible repeat (first | apply Kd.Q_alloc | apply Kd.Q_drewN | apply Kd.Q_drew)); exact HO459.out) hb); have n1_ := Aside0.mk (Kd.R_below (zR11 HO462.out) hb); have n2_ := Aside0.mk (Kd.Q_below (by (with_reducible repeat (first | apply Kd.Q_alloc | apply Kd.Q_drewN | apply Kd.Q_drew)); exact HO466.out) hb); have n3_ := Aside0.mk (Kd.Q_below (by (with_reducible repeat (first | apply Kd.Q_alloc | apply Kd.Q_drewN | apply Kd.Q_drew)); exact HO471.out) hb); have n4_ := Aside0.mk (Kd.Q_below (by (with_reducible repeat (first | apply Kd.Q_alloc | apply Kd.Q_drewN | apply Kd.Q_drew)); exact HO475.out) hb); have n5_ := Aside0.mk (Kd.Q_below (by (with_reducible repeat (first | apply Kd.Q_alloc | apply Kd.Q_drewN | apply Kd.Q_drew)); exact HO479.out) hb); have n6_ := Aside0.mk (Kd.R_below (zR11 HO482.out) hb); have n7_ := Aside0.mk (Kd.R_below (zR11 HO486.out) hb); have n8_ := Aside0.mk (Kd.R_below (zR11 HO489.out) hb); have n9_ := Aside0.mk (below_step (zB11_0) hb); clear HO459; clear HO462; clear HO466; clear HO471; clear HO475; clear HO479; clear HO482; clear HO486; clear HO489; clear HB; have HO459 := n0_; have HO462 := n1_; have HO466 := n2_; have HO471 := n3_; have HO475 := n4_; have HO479 := n5_; have HO482 := n6_; have HO486 := n7_; have HO489 := n8_; have HB := n9_; clear n0_ n1_ n2_ n3_ n4_ n5_ n6_ n7_ n8_ n9_; (try clear hb); (try clear hb2); (try clear hk); (try clear hi)) | (go_at_call 20; (with_reducible refine (spec_LoopsFrom.calls k _ _ t472 t473 t494 _ ?side1 ?side2 A40.out).mono ?_); (case side1 => exact zC11 (Kd.Q_reads' HO475.out).2.2); (case side2 => exact (Kd.Q_reads' HO475.out).2.1); rintro e w55 ⟨rfl, hb⟩; have n0_ := Aside0.mk (Kd.Q_below (by (with_reducible repeat (first | apply Kd.Q_alloc | apply Kd.Q_drewN | apply Kd.Q_drew)); exact HO459.out) hb); have n1_ := Aside0.mk (Kd.R_below (zR11 HO462.out) hb); have n2_ := Aside0.mk (Kd.Q_below (by (with_reducible repeat (first | apply Kd.Q_alloc | apply Kd.Q_drewN | apply Kd.Q_drew)); exact HO466.out) hb); have n3_ := Aside0.mk (Kd.Q_below (by (with_reducible repeat (first | apply Kd.Q_alloc | apply Kd.Q_drewN | apply Kd.Q_drew)); exact HO471.out) hb); have n4_ := Aside0.mk (Kd.Q_below (by (with_reducible repeat (first | apply Kd.Q_alloc | apply Kd.Q_drewN | apply Kd.Q_drew)); exact HO475.out) hb); have n5_ := Aside0.mk (Kd.Q_below (by (with_reducible repeat (first | apply Kd.Q_alloc | apply Kd.Q_drewN | apply Kd.Q_drew)); exact HO479.out) hb); have n6_ := Aside0.mk (Kd.R_below (zR11 HO482.out) hb); have n7_ := Aside0.mk (Kd.R_below (zR11 HO486.out) hb); have n8_ := Aside0.mk (Kd.R_below (zR11 HO489.out) hb); have n9_ := Aside0.mk (below_step (zB11_0) hb); clear HO459; clear HO462; clear HO466; clear HO471; clear HO475; clear HO479; clear HO482; clear HO486; clear HO489; clear HB; have HO459 := n0_; have HO462 := n1_; have HO466 := n2_; have HO471 := n3_; have HO475 := n4_; have HO479 := n5_; have HO482 := n6_; have HO486 := n7_; have HO489 := n8_; have HB := n9_; clear n0_ n1_ n2_ n3_ n4_ n5_ n6_ n7_ n8_ n9_; (try clear hb); (try clear hb2); (try clear hk); (try clear hi)))
   go_meet
   case rel => exact ⟨_, (true), (by first | rfl | (simp; done) | (simp [*]; done)), H', ⟨by first | omega | exact Nat.le_refl _⟩, ⟨by (with_reducible repeat (first | apply Kd.Q_alloc | apply Kd.Q_drewN | apply Kd.Q_drew)); exact Kd.Q_mono HO459.out (fun _ hk => hk.1.1.1.1.1.1.1.2)⟩, ⟨by (with_reducible repeat (first | apply Kd.R_alloc | apply Kd.R_drewN | apply Kd.R_drew)); exact Kd.R_mono HO462.out (fun _ hk => hk.1.1.1.1.1.1.1.2)⟩, ⟨zB11_0⟩⟩
  rw [if_neg c41] at H
  have c41b0 : (t493 != t494) = false := by simpa using c41
  (try (have c41b1 : decide (t493 = t494) = true := by simpa using c41))
  (try (have c41b2 : (t493 == t494) = true := by simpa using c41))
  clear c41
  replace H := Option.bind_eq_some_iff.mp H
  obtain ⟨t495, A560, H⟩ := H
  replace H : ((spec_WritesFrom.f k t476 t477).bind fun t496 => (laws_FnFlows.j0 k t456 t457 t460 (t495 != t496))) = some r := H
  have A56 := Aside0.mk A560
  clear A560
  replace H := Option.bind_eq_some_iff.mp H
  obtain ⟨t496, A570, H⟩ := H
  replace H : (laws_FnFlows.j0 k t456 t457 t460 (t495 != t496)) = some r := H
  have A57 := Aside0.mk A570
  clear A570
  have H' := Aside0.mk H
  clear H
  go_wp2_with (first | ((with_reducible refine gate_callee (f := 14) rfl ?_); refine goesL_ (some 52) rfl rfl Try.func14 (by kernel_rfl) rfl #[.slice Ao12 t456.length co12, .int .i64 t457] rfl zT11 ?_; (with_reducible refine (spec_ReachOf.calls k _ _ t456 t457 t480 _ ?side1 ?side2 A18.out).mono ?_); (case side1 => exact zC11 (Kd.Q_reads' HO459.out).2.2); (case side2 => exact (Kd.Q_reads' HO459.out).2.1); rintro e w58 ⟨v481, rfl, ho0, hb⟩; refine ⟨_, rfl, ?_⟩; have n0_ := Aside0.mk (Kd.Q_elder' (by (with_reducible repeat (first | apply Kd.Q_alloc | apply Kd.Q_drewN | apply Kd.Q_drew)); exact HO459.out) (Kd.R_base ho0) hb); have n1_ := Aside0.mk (Kd.R_elder' (zR11 HO462.out) (Kd.R_base ho0) hb); have n2_ := Aside0.mk (Kd.Q_elder' (by (with_reducible repeat (first | apply Kd.Q_alloc | apply Kd.Q_drewN | apply Kd.Q_drew)); exact HO466.out) (Kd.R_base ho0) hb); have n3_ := Aside0.mk (Kd.Q_elder' (by (with_reducible repeat (first | apply Kd.Q_alloc | apply Kd.Q_drewN | apply Kd.Q_drew)); exact HO471.out) (Kd.R_base ho0) hb); have n4_ := Aside0.mk (Kd.Q_elder' (by (with_reducible repeat (first | apply Kd.Q_alloc | apply Kd.Q_drewN | apply Kd.Q_drew)); exact HO475.out) (Kd.R_base ho0) hb); have n5_ := Aside0.mk (Kd.Q_elder' (by (with_reducible repeat (first | apply Kd.Q_alloc | apply Kd.Q_drewN | apply Kd.Q_drew)); exact HO479.out) (Kd.R_base ho0) hb); have n6_ := Aside0.mk (Kd.R_lower (Kd.R_new' (Kd.R_new' (Kd.R_new' (Kd.R_new' (Kd.R_new' (Kd.R_new' ho0 (Kd.Q_lt (by (with_reducible repeat (first | apply Kd.Q_alloc | apply Kd.Q_drewN | apply Kd.Q_drew)); exact HO459.out))) (Kd.R_lt (zR11 HO462.out))) (Kd.Q_lt (by (with_reducible repeat (first | apply Kd.Q_alloc | apply Kd.Q_drewN | apply Kd.Q_drew)); exact HO466.out))) (Kd.Q_lt (by (with_reducible repeat (first | apply Kd.Q_alloc | apply Kd.Q_drewN | apply Kd.Q_drew)); exact HO471.out))) (Kd.Q_lt (by (with_reducible repeat (first | apply Kd.Q_alloc | apply Kd.Q_drewN | apply Kd.Q_drew)); exact HO475.out))) (Kd.Q_lt (by (with_reducible repeat (first | apply Kd.Q_alloc | apply Kd.Q_drewN | apply Kd.Q_drew)); exact HO479.out))) (below_size (zB11_0))); have n7_ := Aside0.mk (below_step (zB11_0) hb); clear HO459; clear HO462; clear HO466; clear HO471; clear HO475; clear HO479; clear HB; have HO459 := n0_; have HO462 := n1_; have HO466 := n2_; have HO471 := n3_; have HO475 := n4_; have HO479 := n5_; have HO482 := n6_; have HB := n7_; clear n0_ n1_ n2_ n3_ n4_ n5_ n6_ n7_; (try clear hb); (try clear hb2); (try clear hk); (try clear hi); (try clear ho0); obtain ⟨Ao59, co59, eo59⟩ := Kd.R_slice HO462.out; subst eo59; obtain ⟨Ao60, co60, eo60⟩ := Kd.R_slice HO482.out; subst eo60) | ((with_reducible refine gate_callee (f := 13) rfl ?_); refine goesL_ (some 53) rfl rfl Try.func13 (by kernel_rfl) rfl #[.slice Ao59 t460.length co59, .slice Ao60 t480.length co60] rfl zT11 ?_; (with_reducible refine (laws_sameInts.calls k _ _ t460 _ _ t480 true _ ?side1 ?side2 ?side3 ?side4 A19.out).mono ?_); (case side1 => exact zC11 (Kd.R_reads' HO462.out).2.2); (case side2 => exact (Kd.R_reads' HO462.out).2.1); (case side3 => exact zC11 (Kd.R_reads' HO482.out).2.2); (case side4 => exact (Kd.R_reads' HO482.out).2.1); rintro e w' ⟨rfl, ⟨nd, rfl⟩⟩; refine ⟨_, rfl, ?_⟩; obtain ⟨Ao61, co61, eo61, _⟩ := Kd.Q_slice HO466.out; subst eo61) | (go_at_call 15; (with_reducible refine (impl_NextOf.calls k _ _ t463 t464 t484 _ ?side1 ?side2 A21.out).mono ?_); (case side1 => exact zC11 (Kd.Q_reads' HO466.out).2.2); (case side2 => exact (Kd.Q_reads' HO466.out).2.1); rintro e w62 ⟨v485, rfl, ho0, hb⟩; have n0_ := Aside0.mk (Kd.Q_elder' (by (with_reducible repeat (first | apply Kd.Q_alloc | apply Kd.Q_drewN | apply Kd.Q_drew)); exact HO459.out) (Kd.R_base ho0) hb); have n1_ := Aside0.mk (Kd.R_elder' (zR11 HO462.out) (Kd.R_base ho0) hb); have n2_ := Aside0.mk (Kd.Q_elder' (by (with_reducible repeat (first | apply Kd.Q_alloc | apply Kd.Q_drewN | apply Kd.Q_drew)); exact HO466.out) (Kd.R_base ho0) hb); have n3_ := Aside0.mk (Kd.Q_elder' (by (with_reducible repeat (first | apply Kd.Q_alloc | apply Kd.Q_drewN | apply Kd.Q_drew)); exact HO471.out) (Kd.R_base ho0) hb); have n4_ := Aside0.mk (Kd.Q_elder' (by (with_reducible repeat (first | apply Kd.Q_alloc | apply Kd.Q_drewN | apply Kd.Q_drew)); exact HO475.out) (Kd.R_base ho0) hb); have n5_ := Aside0.mk (Kd.Q_elder' (by (with_reducible repeat (first | apply Kd.Q_alloc | apply Kd.Q_drewN | apply Kd.Q_drew)); exact HO479.out) (Kd.R_base ho0) hb); have n6_ := Aside0.mk (Kd.R_elder' (zR11 HO482.out) (Kd.R_base ho0) hb); have n7_ := Aside0.mk (Kd.R_lower (Kd.R_new' (Kd.R_new' (Kd.R_new' (Kd.R_new' (Kd.R_new' (Kd.R_new' (Kd.R_new' ho0 (Kd.Q_lt (by (with_reducible repeat (first | apply Kd.Q_alloc | apply Kd.Q_drewN | apply Kd.Q_drew)); exact HO459.out))) (Kd.R_lt (zR11 HO462.out))) (Kd.Q_lt (by (with_reducible repeat (first | apply Kd.Q_alloc | apply Kd.Q_drewN | apply Kd.Q_drew)); exact HO466.out))) (Kd.Q_lt (by (with_reducible repeat (first | apply Kd.Q_alloc | apply Kd.Q_drewN | apply Kd.Q_drew)); exact HO471.out))) (Kd.Q_lt (by (with_reducible repeat (first | apply Kd.Q_alloc | apply Kd.Q_drewN | apply Kd.Q_drew)); exact HO475.out))) (Kd.Q_lt (by (with_reducible repeat (first | apply Kd.Q_alloc | apply Kd.Q_drewN | apply Kd.Q_drew)); exact HO479.out))) (Kd.R_lt (zR11 HO482.out))) (below_size (zB11_0))); have n8_ := Aside0.mk (below_step (zB11_0) hb); clear HO459; clear HO462; clear HO466; clear HO471; clear HO475; clear HO479; clear HO482; clear HB; have HO459 := n0_; have HO462 := n1_; have HO466 := n2_; have HO471 := n3_; have HO475 := n4_; have HO479 := n5_; have HO482 := n6_; have HO486 := n7_; have HB := n8_; clear n0_ n1_ n2_ n3_ n4_ n5_ n6_ n7_ n8_; (try clear hb); (try clear hb2); (try clear hk); (try clear hi); (try clear ho0)) | (go_at_call 16; (with_reducible refine (spec_NextOf.calls k _ _ t463 t464 t487 _ ?side1 ?side2 A22.out).mono ?_); (case side1 => exact zC11 (Kd.Q_reads' HO466.out).2.2); (case side2 => exact (Kd.Q_reads' HO466.out).2.1); rintro e w63 ⟨v488, rfl, ho0, hb⟩; have n0_ := Aside0.mk (Kd.Q_elder' (by (with_reducible repeat (first | apply Kd.Q_alloc | apply Kd.Q_drewN | apply Kd.Q_drew)); exact HO459.out) (Kd.R_base ho0) hb); have n1_ := Aside0.mk (Kd.R_elder' (zR11 HO462.out) (Kd.R_base ho0) hb); have n2_ := Aside0.mk (Kd.Q_elder' (by (with_reducible repeat (first | apply Kd.Q_alloc | apply Kd.Q_drewN | apply Kd.Q_drew)); exact HO466.out) (Kd.R_base ho0) hb); have n3_ := Aside0.mk (Kd.Q_elder' (by (with_reducible repeat (first | apply Kd.Q_alloc | apply Kd.Q_drewN | apply Kd.Q_drew)); exact HO471.out) (Kd.R_base ho0) hb); have n4_ := Aside0.mk (Kd.Q_elder' (by (with_reducible repeat (first | apply Kd.Q_alloc | apply Kd.Q_drewN | apply Kd.Q_drew)); exact HO475.out) (Kd.R_base ho0) hb); have n5_ := Aside0.mk (Kd.Q_elder' (by (with_reducible repeat (first | apply Kd.Q_alloc | apply Kd.Q_drewN | apply Kd.Q_drew)); exact HO479.out) (Kd.R_base ho0) hb); have n6_ := Aside0.mk (Kd.R_elder' (zR11 HO482.out) (Kd.R_base ho0) hb); have n7_ := Aside0.mk (Kd.R_elder' (zR11 HO486.out) (Kd.R_base ho0) hb); have n8_ := Aside0.mk (Kd.R_lower (Kd.R_new' (Kd.R_new' (Kd.R_new' (Kd.R_new' (Kd.R_new' (Kd.R_new' (Kd.R_new' (Kd.R_new' ho0 (Kd.Q_lt (by (with_reducible repeat (first | apply Kd.Q_alloc | apply Kd.Q_drewN | apply Kd.Q_drew)); exact HO459.out))) (Kd.R_lt (zR11 HO462.out))) (Kd.Q_lt (by (with_reducible repeat (first | apply Kd.Q_alloc | apply Kd.Q_drewN | apply Kd.Q_drew)); exact HO466.out))) (Kd.Q_lt (by (with_reducible repeat (first | apply Kd.Q_alloc | apply Kd.Q_drewN | apply Kd.Q_drew)); exact HO471.out))) (Kd.Q_lt (by (with_reducible repeat (first | apply Kd.Q_alloc | apply Kd.Q_drewN | apply Kd.Q_drew)); exact HO475.out))) (Kd.Q_lt (by (with_reducible repeat (first | apply Kd.Q_alloc | apply Kd.Q_drewN | apply Kd.Q_drew)); exact HO479.out))) (Kd.R_lt (zR11 HO482.out))) (Kd.R_lt (zR11 HO486.out))) (below_size (zB11_0))); have n9_ := Aside0.mk (below_step (zB11_0) hb); clear HO459; clear HO462; clear HO466; clear HO471; clear HO475; clear HO479; clear HO482; clear HO486; clear HB; have HO459 := n0_; have HO462 := n1_; have HO466 := n2_; have HO471 := n3_; have HO475 := n4_; have HO479 := n5_; have HO482 := n6_; have HO486 := n7_; have HO489 := n8_; have HB := n9_; clear n0_ n1_ n2_ n3_ n4_ n5_ n6_ n7_ n8_ n9_; (try clear hb); (try clear hb2); (try clear hk); (try clear hi); (try clear ho0); obtain ⟨Ao64, co64, eo64⟩ := Kd.R_slice HO486.out; subst eo64; obtain ⟨Ao65, co65, eo65⟩ := Kd.R_slice HO489.out; subst eo65) | (go_at_call 13; (with_reducible refine (laws_sameInts.calls k _ _ t484 _ _ t487 true _ ?side1 ?side2 ?side3 ?side4 A23.out).mono ?_); (case side1 => exact zC11 (Kd.R_reads' HO486.out).2.2); (case side2 => exact (Kd.R_reads' HO486.out).2.1); (case side3 => exact zC11 (Kd.R_reads' HO489.out).2.2); (case side4 => exact (Kd.R_reads' HO489.out).2.1); rintro e w' ⟨rfl, ⟨nd, rfl⟩⟩; obtain ⟨Ao66, co66, eo66, _⟩ := Kd.Q_slice HO471.out; subst eo66) | (go_at_call 17; (with_reducible refine (impl_LeadsTo.calls k _ _ t467 t468 t469 t491 _ ?side1 ?side2 A25.out).mono ?_); (case side1 => exact zC11 (Kd.Q_reads' HO471.out).2.2); (case side2 => exact (Kd.Q_reads' HO471.out).2.1); rintro e w67 ⟨rfl, hb⟩; have n0_ := Aside0.mk (Kd.Q_below (by (with_reducible repeat (first | apply Kd.Q_alloc | apply Kd.Q_drewN | apply Kd.Q_drew)); exact HO459.out) hb); have n1_ := Aside0.mk (Kd.R_below (zR11 HO462.out) hb); have n2_ := Aside0.mk (Kd.Q_below (by (with_reducible repeat (first | apply Kd.Q_alloc | apply Kd.Q_drewN | apply Kd.Q_drew)); exact HO466.out) hb); have n3_ := Aside0.mk (Kd.Q_below (by (with_reducible repeat (first | apply Kd.Q_alloc | apply Kd.Q_drewN | apply Kd.Q_drew)); exact HO471.out) hb); have n4_ := Aside0.mk (Kd.Q_below (by (with_reducible repeat (first | apply Kd.Q_alloc | apply Kd.Q_drewN | apply Kd.Q_drew)); exact HO475.out) hb); have n5_ := Aside0.mk (Kd.Q_below (by (with_reducible repeat (first | apply Kd.Q_alloc | apply Kd.Q_drewN | apply Kd.Q_drew)); exact HO479.out) hb); have n6_ := Aside0.mk (Kd.R_below (zR11 HO482.out) hb); have n7_ := Aside0.mk (Kd.R_below (zR11 HO486.out) hb); have n8_ := Aside0.mk (Kd.R_below (zR11 HO489.out) hb); have n9_ := Aside0.mk (below_step (zB11_0) hb); clear HO459; clear HO462; clear HO466; clear HO471; clear HO475; clear HO479; clear HO482; clear HO486; clear HO489; clear HB; have HO459 := n0_; have HO462 := n1_; have HO466 := n2_; have HO471 := n3_; have HO475 := n4_; have HO479 := n5_; have HO482 := n6_; have HO486 := n7_; have HO489 := n8_; have HB := n9_; clear n0_ n1_ n2_ n3_ n4_ n5_ n6_ n7_ n8_ n9_; (try clear hb); (try clear hb2); (try clear hk); (try clear hi)) | (go_at_call 18; (with_reducible refine (spec_LeadsTo.calls k _ _ t467 t468 t469 t492 _ ?side1 ?side2 A26.out).mono ?_); (case side1 => exact zC11 (Kd.Q_reads' HO471.out).2.2); (case side2 => exact (Kd.Q_reads' HO471.out).2.1); rintro e w68 ⟨rfl, hb⟩; have n0_ := Aside0.mk (Kd.Q_below (by (with_reducible repeat (first | apply Kd.Q_alloc | apply Kd.Q_drewN | apply Kd.Q_drew)); exact HO459.out) hb); have n1_ := Aside0.mk (Kd.R_below (zR11 HO462.out) hb); have n2_ := Aside0.mk (Kd.Q_below (by (with_reducible repeat (first | apply Kd.Q_alloc | apply Kd.Q_drewN | apply Kd.Q_drew)); exact HO466.out) hb); have n3_ := Aside0.mk (Kd.Q_below (by (with_reducible repeat (first | apply Kd.Q_alloc | apply Kd.Q_drewN | apply Kd.Q_drew)); exact HO471.out) hb); have n4_ := Aside0.mk (Kd.Q_below (by (with_reducible repeat (first | apply Kd.Q_alloc | apply Kd.Q_drewN | apply Kd.Q_drew)); exact HO475.out) hb); have n5_ := Aside0.mk (Kd.Q_below (by (with_reducible repeat (first | apply Kd.Q_alloc | apply Kd.Q_drewN | apply Kd.Q_drew)); exact HO479.out) hb); have n6_ := Aside0.mk (Kd.R_below (zR11 HO482.out) hb); have n7_ := Aside0.mk (Kd.R_below (zR11 HO486.out) hb); have n8_ := Aside0.mk (Kd.R_below (zR11 HO489.out) hb); have n9_ := Aside0.mk (below_step (zB11_0) hb); clear HO459; clear HO462; clear HO466; clear HO471; clear HO475; clear HO479; clear HO482; clear HO486; clear HO489; clear HB; have HO459 := n0_; have HO462 := n1_; have HO466 := n2_; have HO471 := n3_; have HO475 := n4_; have HO479 := n5_; have HO482 := n6_; have HO486 := n7_; have HO489 := n8_; have HB := n9_; clear n0_ n1_ n2_ n3_ n4_ n5_ n6_ n7_ n8_ n9_; (try clear hb); (try clear hb2); (try clear hk); (try clear hi); obtain ⟨Ao69, co69, eo69, _⟩ := Kd.Q_slice HO475.out; subst eo69) | (go_at_call 19; (with_reducible refine (impl_LoopsFrom.calls k _ _ t472 t473 t493 _ ?side1 ?side2 A39.out).mono ?_); (case side1 => exact zC11 (Kd.Q_reads' HO475.out).2.2); (case side2 => exact (Kd.Q_reads' HO475.out).2.1); rintro e w70 ⟨rfl, hb⟩; have n0_ := Aside0.mk (Kd.Q_below (by (with_reducible repeat (first | apply Kd.Q_alloc | apply Kd.Q_drewN | apply Kd.Q_drew)); exact HO459.out) hb); have n1_ := Aside0.mk (Kd.R_below (zR11 HO462.out) hb); have n2_ := Aside0.mk (Kd.Q_below (by (with_reducible repeat (first | apply Kd.Q_alloc | apply Kd.Q_drewN | apply Kd.Q_drew)); exact HO466.out) hb); have n3_ := Aside0.mk (Kd.Q_below (by (with_reducible repeat (first | apply Kd.Q_alloc | apply Kd.Q_drewN | apply Kd.Q_drew)); exact HO471.out) hb); have n4_ := Aside0.mk (Kd.Q_below (by (with_reducible repeat (first | apply Kd.Q_alloc | apply Kd.Q_drewN | apply Kd.Q_drew)); exact HO475.out) hb); have n5_ := Aside0.mk (Kd.Q_below (by (with_reducible repeat (first | apply Kd.Q_alloc | apply Kd.Q_drewN | apply Kd.Q_drew)); exact HO479.out) hb); have n6_ := Aside0.mk (Kd.R_below (zR11 HO482.out) hb); have n7_ := Aside0.mk (Kd.R_below (zR11 HO486.out) hb); have n8_ := Aside0.mk (Kd.R_below (zR11 HO489.out) hb); have n9_ := Aside0.mk (below_step (zB11_0) hb); clear HO459; clear HO462; clear HO466; clear HO471; clear HO475; clear HO479; clear HO482; clear HO486; clear HO489; clear HB; have HO459 := n0_; have HO462 := n1_; have HO466 := n2_; have HO471 := n3_; have HO475 := n4_; have HO479 := n5_; have HO482 := n6_; have HO486 := n7_; have HO489 := n8_; have HB := n9_; clear n0_ n1_ n2_ n3_ n4_ n5_ n6_ n7_ n8_ n9_; (try clear hb); (try clear hb2); (try clear hk); (try clear hi)) | (go_at_call 20; (with_reducible refine (spec_LoopsFrom.calls k _ _ t472 t473 t494 _ ?side1 ?side2 A40.out).mono ?_); (case side1 => exact zC11 (Kd.Q_reads' HO475.out).2.2); (case side2 => exact (Kd.Q_reads' HO475.out).2.1); rintro e w71 ⟨rfl, hb⟩; have n0_ := Aside0.mk (Kd.Q_below (by (with_reducible repeat (first | apply Kd.Q_alloc | apply Kd.Q_drewN | apply Kd.Q_drew)); exact HO459.out) hb); have n1_ := Aside0.mk (Kd.R_below (zR11 HO462.out) hb); have n2_ := Aside0.mk (Kd.Q_below (by (with_reducible repeat (first | apply Kd.Q_alloc | apply Kd.Q_drewN | apply Kd.Q_drew)); exact HO466.out) hb); have n3_ := Aside0.mk (Kd.Q_below (by (with_reducible repeat (first | apply Kd.Q_alloc | apply Kd.Q_drewN | apply Kd.Q_drew)); exact HO471.out) hb); have n4_ := Aside0.mk (Kd.Q_below (by (with_reducible repeat (first | apply Kd.Q_alloc | apply Kd.Q_drewN | apply Kd.Q_drew)); exact HO475.out) hb); have n5_ := Aside0.mk (Kd.Q_below (by (with_reducible repeat (first | apply Kd.Q_alloc | apply Kd.Q_drewN | apply Kd.Q_drew)); exact HO479.out) hb); have n6_ := Aside0.mk (Kd.R_below (zR11 HO482.out) hb); have n7_ := Aside0.mk (Kd.R_below (zR11 HO486.out) hb); have n8_ := Aside0.mk (Kd.R_below (zR11 HO489.out) hb); have n9_ := Aside0.mk (below_step (zB11_0) hb); clear HO459; clear HO462; clear HO466; clear HO471; clear HO475; clear HO479; clear HO482; clear HO486; clear HO489; clear HB; have HO459 := n0_; have HO462 := n1_; have HO466 := n2_; have HO471 := n3_; have HO475 := n4_; have HO479 := n5_; have HO482 := n6_; have HO486 := n7_; have HO489 := n8_; have HB := n9_; clear n0_ n1_ n2_ n3_ n4_ n5_ n6_ n7_ n8_ n9_; (try clear hb); (try clear hb2); (try clear hk); (try clear hi); obtain ⟨Ao72, co72, eo72, _⟩ := Kd.Q_slice HO479.out; subst eo72) | (go_at_call 21; (with_reducible refine (impl_WritesFrom.calls k _ _ t476 t477 t495 _ ?side1 ?side2 A56.out).mono ?_); (case side1 => exact zC11 (Kd.Q_reads' HO479.out).2.2); (case side2 => exact (Kd.Q_reads' HO479.out).2.1); rintro e w73 ⟨rfl, hb⟩; have n0_ := Aside0.mk (Kd.Q_below (by (with_reducible repeat (first | apply Kd.Q_alloc | apply Kd.Q_drewN | apply Kd.Q_drew)); exact HO459.out) hb); have n1_ := Aside0.mk (Kd.R_below (zR11 HO462.out) hb); have n2_ := Aside0.mk (Kd.Q_below (by (with_reducible repeat (first | apply Kd.Q_alloc | apply Kd.Q_drewN | apply Kd.Q_drew)); exact HO466.out) hb); have n3_ := Aside0.mk (Kd.Q_below (by (with_reducible repeat (first | apply Kd.Q_alloc | apply Kd.Q_drewN | apply Kd.Q_drew)); exact HO471.out) hb); have n4_ := Aside0.mk (Kd.Q_below (by (with_reducible repeat (first | apply Kd.Q_alloc | apply Kd.Q_drewN | apply Kd.Q_drew)); exact HO475.out) hb); have n5_ := Aside0.mk (Kd.Q_below (by (with_reducible repeat (first | apply Kd.Q_alloc | apply Kd.Q_drewN | apply Kd.Q_drew)); exact HO479.out) hb); have n6_ := Aside0.mk (Kd.R_below (zR11 HO482.out) hb); have n7_ := Aside0.mk (Kd.R_below (zR11 HO486.out) hb); have n8_ := Aside0.mk (Kd.R_below (zR11 HO489.out) hb); have n9_ := Aside0.mk (below_step (zB11_0) hb); clear HO459; clear HO462; clear HO466; clear HO471; clear HO475; clear HO479; clear HO482; clear HO486; clear HO489; clear HB; have HO459 := n0_; have HO462 := n1_; have HO466 := n2_; have HO471 := n3_; have HO475 := n4_; have HO479 := n5_; have HO482 := n6_; have HO486 := n7_; have HO489 := n8_; have HB := n9_; clear n0_ n1_ n2_ n3_ n4_ n5_ n6_ n7_ n8_ n9_; (try clear hb); (try clear hb2); (try clear hk); (try clear hi)) | (go_at_call 22; (with_reducible refine (spec_WritesFrom.calls k _ _ t476 t477 t496 _ ?side1 ?side2 A57.out).mono ?_); (case side1 => exact zC11 (Kd.Q_reads' HO479.out).2.2); (case side2 => exact (Kd.Q_reads' HO479.out).2.1); rintro e w74 ⟨rfl, hb⟩; have n0_ := Aside0.mk (Kd.Q_below (by (with_reducible repeat (first | apply Kd.Q_alloc | apply Kd.Q_drewN | apply Kd.Q_drew)); exact HO459.out) hb); have n1_ := Aside0.mk (Kd.R_below (zR11 HO462.out) hb); have n2_ := Aside0.mk (Kd.Q_below (by (with_reducible repeat (first | apply Kd.Q_alloc | apply Kd.Q_drewN | apply Kd.Q_drew)); exact HO466.out) hb); have n3_ := Aside0.mk (Kd.Q_below (by (with_reducible repeat (first | apply Kd.Q_alloc | apply Kd.Q_drewN | apply Kd.Q_drew)); exact HO471.out) hb); have n4_ := Aside0.mk (Kd.Q_below (by (with_reducible repeat (first | apply Kd.Q_alloc | apply Kd.Q_drewN | apply Kd.Q_drew)); exact HO475.out) hb); have n5_ := Aside0.mk (Kd.Q_below (by (with_reducible repeat (first | apply Kd.Q_alloc | apply Kd.Q_drewN | apply Kd.Q_drew)); exact HO479.out) hb); have n6_ := Aside0.mk (Kd.R_below (zR11 HO482.out) hb); have n7_ := Aside0.mk (Kd.R_below (zR11 HO486.out) hb); have n8_ := Aside0.mk (Kd.R_below (zR11 HO489.out) hb); have n9_ := Aside0.mk (below_step (zB11_0) hb); clear HO459; clear HO462; clear HO466; clear HO471; clear HO475; clear HO479; clear HO482; clear HO486; clear HO489; clear HB; have HO459 := n0_; have HO462 := n1_; have HO466 := n2_; have HO471 := n3_; have HO475 := n4_; have HO479 := n5_; have HO482 := n6_; have HO486 := n7_; have HO489 := n8_; have HB := n9_; clear n0_ n1_ n2_ n3_ n4_ n5_ n6_ n7_ n8_ n9_; (try clear hb); (try clear hb2); (try clear hk); (try clear hi)))
  go_meet
  case rel => exact ⟨_, ((t495 != t496)), (by first | rfl | (simp; done) | (simp [*]; done)), H', ⟨by first | omega | exact Nat.le_refl _⟩, ⟨by (with_reducible repeat (first | apply Kd.Q_alloc | apply Kd.Q_drewN | apply Kd.Q_drew)); exact Kd.Q_mono HO459.out (fun _ hk => hk.1.1.1.1.1.1.1.2)⟩, ⟨by (with_reducible repeat (first | apply Kd.R_alloc | apply Kd.R_drewN | apply Kd.R_drew)); exact Kd.R_mono HO462.out (fun _ hk => hk.1.1.1.1.1.1.1.2)⟩, ⟨zB11_0⟩⟩
 case rest =>
  clear HC10
  try clear c1
  try clear c2
  try clear p2
  try clear c3
  try clear c4
  try clear c6
  try clear c7
  try clear c8
  try clear c9
  try clear c10
  try clear c11
  try clear c12
  try clear c13
  try clear c14
  try clear c20
  try clear c24
  try clear c27
  try clear c27b0
  try clear c27b1
  try clear c27b2
  try clear c41
  try clear c41b0
  try clear c41b1
  try clear c41b2
  obtain ⟨kq, x93_9, rfl, HA, HJ9, HO_3, HO_5, HB⟩ := hcut
  cases kq with
  | zero => exact absurd HA.out (by simp [laws_FnFlows.j0])
  | succ kj9 =>
   have H := HA.out
   clear HA
   simp only [laws_FnFlows.j0] at H
   by_cases c86 : x93_9 = true
   ·subst c86
    have H1 : (some false) = some r := by rw [if_pos rfl] at H; exact H
    clear H
    have H := H1
    clear H1
    obtain rfl := Option.some.inj H
    go_wp2
    go_ret
    exact ⟨zE11, zB11_0⟩
   replace c86 := Bool.eq_false_iff.mpr c86
   subst c86
   have H1 : (laws_FnFlows.l0 kj9 t456 t457 t460 0) = some r := by rw [if_neg (show ¬ (false = true) by decide)] at H; exact H
   clear H
   have H := H1
   clear H1
   have H' := Aside0.mk H
   clear H
   go_wp2
   go_loopg [15] kj9 (fun kq v15 w' => ∃ (x15_2 : Int), v15 = .int .i64 x15_2 ∧ Aside0 (laws_FnFlows.l0 kq t456 t457 t460 x15_2 = some r) ∧ Aside0 (kq ≤ kj9) ∧ Aside0 (Kd.Q (Kd.int .i64) 3 w' w.heap.size (fun k_ => some k_ ≠ (v461 : Value).ownBlock) (.slice Ao12 t456.length co12) t456) ∧ Aside0 (Kd.R (Kd.int .i64) 3 w' w.heap.size (fun k_ => some k_ ≠ ((.slice Ao12 t456.length co12) : Value).ownBlock) v461 t460) ∧ Aside0 (Below w.heap.size w w'))
   case atStart => exact ⟨(0), (by first | rfl | (simp; done) | (simp [*]; done)), H', ⟨Nat.le_refl _⟩, ⟨by (with_reducible repeat (first | apply Kd.Q_alloc | apply Kd.Q_drewN | apply Kd.Q_drew)); exact HO_3.out⟩, ⟨zR11 HO_5.out⟩, ⟨zB11_0⟩⟩
   case round =>
    clear H'
    try clear c1
    try clear c2
    try clear p2
    try clear c3
    try clear c4
    try clear c6
    try clear c7
    try clear c8
    try clear c9
    try clear c10
    try clear c11
    try clear c12
    try clear c13
    try clear c14
    try clear c20
    try clear c24
    try clear c27
    try clear c27b0
    try clear c27b1
    try clear c27b2
    try clear c41
    try clear c41b0
    try clear c41b1
    try clear c41b2
    try clear c86
    try clear p2
    obtain ⟨x15_2, rfl, HA, HK2, HO_3, HO_5, HB⟩ := hrel
    cases gk with
    | zero => exact absurd HA.out (by simp [laws_FnFlows.l0])
    | succ k2 =>
     have H := HA.out
     clear HA
     simp only [laws_FnFlows.l0] at H
     by_cases c87 : x15_2 < (t460.length : Int)
     rotate_left
     ·rw [if_neg c87] at H
      have c87b0 : decide (x15_2 < (t460.length : Int)) = false := decide_eq_false c87
      clear c87
      by_cases c106 : (t460.length : Int) = 0
      ·rw [if_pos c106] at H
       have c106b0 : ((t460.length : Int) == 0) = true := beq_iff_eq.mpr c106
       have c106b1 : ((t460.length : Int) != 0) = false := bne_eq_false_iff_eq.mpr c106
       clear c106
       obtain rfl := Option.some.inj H
       obtain ⟨Ao107, co107, eo107⟩ := Kd.R_slice HO_5.out
       subst eo107
       go_wp2
       go_ret
       exact ⟨zE11, zB11_0⟩
      rw [if_neg c106] at H
      have c106b0 : ((t460.length : Int) == 0) = false := beq_eq_false_iff_ne.mpr c106
      have c106b1 : ((t460.length : Int) != 0) = true := bne_iff_ne.mpr c106
      have c106b2 : ¬ (t460 = []) := fun h_ => c106 (by rw [h_]; rfl)
      replace H := Option.bind_eq_some_iff.mp H
      obtain ⟨t497, A1080, H⟩ := H
      replace H : (some t497) = some r := H
      have A108 := Aside0.mk A1080
      clear A1080
      obtain rfl := Option.some.inj H
      obtain ⟨Ao109, co109, eo109⟩ := Kd.R_slice HO_5.out
      subst eo109
      go_wp2_with (first | (go_at_call 23; (with_reducible refine (laws_within.calls k2 _ _ t460 t457 t497 _ ?side1 ?side2 A108.out).mono ?_); (case side1 => exact zC11 (Kd.R_reads' HO_5.out).2.2); (case side2 => exact (Kd.R_reads' HO_5.out).2.1); rintro e w' ⟨rfl, ⟨nd, rfl⟩⟩))
      go_ret
      exact ⟨zE11, zB11_0⟩
     rw [if_pos c87] at H
     have c87b0 : decide (x15_2 < (t460.length : Int)) = true := decide_eq_true c87
     clear c87
     by_cases c88 : 0 ≤ x15_2
     rotate_left
     ·rw [if_neg c88] at H
      exact absurd H (by simp)
     rw [if_pos c88] at H
     have c88b0 : decide (0 ≤ x15_2) = true := decide_eq_true c88
     clear c88
     replace H := Option.bind_eq_some_iff.mp H
     obtain ⟨t499, A890, H⟩ := H
     replace H : (laws_FnFlows.l1 k2 t456 t457 t460 x15_2 t499 0) = some r := H
     have A89 := Aside0.mk A890
     clear A890
     have H' := Aside0.mk H
     clear H
     obtain ⟨Ao90, co90, eo90⟩ := Kd.R_slice HO_5.out
     subst eo90
     have p498 : 0 ≤ (x15_2 : Int) := zA11
     have q498 : x15_2 < (t460.length : Int) := zA11
     obtain ⟨ad498, e498, hx498_0⟩ := Kd.at_int (Kd.R_reads' HO_5.out).2.2 x15_2 p498 q498
     cases e498
     replace p498 := eq_true p498
     replace q498 := eq_true q498
     go_wp2_with (first | ((with_reducible refine gate_callee (f := 15) rfl ?_); refine goesL_ (some 105) rfl rfl Try.func15 (by kernel_rfl) rfl #[.slice Ao12 t456.length co12, .int .i64 (rd t460 x15_2)] rfl zT11 ?_; (with_reducible refine (impl_NextOf.calls k2 _ _ t456 (rd t460 x15_2) t499 _ ?side1 ?side2 A89.out).mono ?_); (case side1 => exact zC11 (Kd.Q_reads' HO_3.out).2.2); (case side2 => exact (Kd.Q_reads' HO_3.out).2.1); rintro e w91 ⟨v500, rfl, ho0, hb⟩; refine ⟨_, rfl, ?_⟩; have n0_ := Aside0.mk (Kd.Q_elder' (by (with_reducible repeat (first | apply Kd.Q_alloc | apply Kd.Q_drewN | apply Kd.Q_drew)); exact HO_3.out) (Kd.R_base ho0) hb); have n1_ := Aside0.mk (Kd.R_elder' (zR11 HO_5.out) (Kd.R_base ho0) hb); have n2_ := Aside0.mk (Kd.R_lower (Kd.R_new' (Kd.R_new' ho0 (Kd.Q_lt (by (with_reducible repeat (first | apply Kd.Q_alloc | apply Kd.Q_drewN | apply Kd.Q_drew)); exact HO_3.out))) (Kd.R_lt (zR11 HO_5.out))) (below_size (zB11_0))); have n3_ := Aside0.mk (below_step (zB11_0) hb); clear HO_3; clear HO_5; clear HB; have HO_3 := n0_; have HO_5 := n1_; have HO501 := n2_; have HB := n3_; clear n0_ n1_ n2_ n3_; (try clear hb); (try clear hb2); (try clear hk); (try clear hi); (try clear ho0)))
     go_loopg [17] k2 (fun kq v17 w' => ∃ (x17_3 : Int), v17 = .int .i64 x17_3 ∧ Aside0 (laws_FnFlows.l1 kq t456 t457 t460 x15_2 t499 x17_3 = some r) ∧ Aside0 (kq ≤ k2) ∧ Aside0 (Kd.Q (Kd.int .i64) 3 w' w.heap.size (fun k_ => some k_ ≠ ((.slice (some ad498) t460.length co90) : Value).ownBlock ∧ some k_ ≠ (v500 : Value).ownBlock) (.slice Ao12 t456.length co12) t456) ∧ Aside0 (Kd.R (Kd.int .i64) 3 w' w.heap.size (fun k_ => some k_ ≠ ((.slice Ao12 t456.length co12) : Value).ownBlock ∧ some k_ ≠ (v500 : Value).ownBlock) (.slice (some ad498) t460.length co90) t460) ∧ Aside0 (Kd.R (Kd.int .i64) 3 w' w.heap.size (fun k_ => some k_ ≠ ((.slice Ao12 t456.length co12) : Value).ownBlock ∧ some k_ ≠ ((.slice (some ad498) t460.length co90) : Value).ownBlock) v500 t499) ∧ Aside0 (Below w.heap.size w w'))
     case atStart => exact ⟨(0), (by first | rfl | (simp; done) | (simp [*]; done)), H', ⟨Nat.le_refl _⟩, ⟨by (with_reducible repeat (first | apply Kd.Q_alloc | apply Kd.Q_drewN | apply Kd.Q_drew)); exact HO_3.out⟩, ⟨zR11 HO_5.out⟩, ⟨by (with_reducible repeat (first | apply Kd.R_alloc | apply Kd.R_drewN | apply Kd.R_drew)); exact Kd.R_mono HO501.out (fun _ hk => ⟨hk.1.2, hk.2⟩)⟩, ⟨zB11_0⟩⟩
     case round =>
      clear H'
      try clear c1
      try clear c2
      try clear p2
      try clear c3
      try clear c4
      try clear p4
      try clear q4
      try clear hx4
      try clear c6
      try clear c7
      try clear c8
      try clear c9
      try clear c10
      try clear c11
      try clear c12
      try clear c13
      try clear c14
      try clear c15
      try clear c20
      try clear c24
      try clear c27
      try clear c27b0
      try clear c27b1
      try clear c27b2
      try clear c41
      try clear c41b0
      try clear c41b1
      try clear c41b2
      try clear p49
      try clear q49
      try clear hx49
      try clear c86
      try clear c87
      try clear c87b0
      try clear c88
      try clear c88b0
      try clear hx498_0
      try clear p2
      try clear p498
      try clear q498
      obtain ⟨x17_3, rfl, HA, HK3, HO_3, HO_5, HO_16, HB⟩ := hrel
      cases gk with
      | zero => exact absurd HA.out (by simp [laws_FnFlows.l1])
      | succ k3 =>
       have H := HA.out
       clear HA
       simp only [laws_FnFlows.l1] at H
       by_cases c92 : x17_3 < (t499.length : Int)
       ·rw [if_pos c92] at H
        have c92b0 : decide (x17_3 < (t499.length : Int)) = true := decide_eq_true c92
        clear c92
        by_cases c93 : 0 ≤ x17_3
        rotate_left
        ·rw [if_neg c93] at H
         exact absurd H (by simp)
        rw [if_pos c93] at H
        have c93b0 : decide (0 ≤ x17_3) = true := decide_eq_true c93
        clear c93
        replace H := Option.bind_eq_some_iff.mp H
        obtain ⟨t503, A940, H⟩ := H
        replace H : (if t503 = true then (laws_FnFlows.l1 k3 t456 t457 t460 x15_2 t499 (wrap64 (x17_3 + 1))) else (some false)) = some r := H
        have A94 := Aside0.mk A940
        clear A940
        by_cases c95 : t503 = true
        rotate_left
        ·replace c95 := Bool.eq_false_iff.mpr c95
         subst c95
         have H1 : (some false) = some r := by rw [if_neg (show ¬ (false = true) by decide)] at H; exact H
         clear H
         have H := H1
         clear H1
         obtain rfl := Option.some.inj H
         obtain ⟨Ao97, co97, eo97⟩ := Kd.R_slice HO_16.out
         subst eo97
         have p502 : 0 ≤ (x17_3 : Int) := zA11
         have q502 : x17_3 < (t499.length : Int) := zA11
         obtain ⟨ad502, e502, hx502_0⟩ := Kd.at_int (Kd.R_reads' HO_16.out).2.2 x17_3 p502 q502
         cases e502
         replace p502 := eq_true p502
         replace q502 := eq_true q502
         go_wp2_with (first | ((with_reducible refine gate_callee (f := 23) rfl ?_); refine goesL_ (some 117) rfl rfl Try.func23 (by kernel_rfl) rfl #[.slice (some ad498) t460.length co90, .int .i64 (rd t499 x17_3)] rfl zT11 ?_; (with_reducible refine (laws_within.calls k3 _ _ t460 (rd t499 x17_3) false _ ?side1 ?side2 A94.out).mono ?_); (case side1 => exact zC11 (Kd.R_reads' HO_5.out).2.2); (case side2 => exact (Kd.R_reads' HO_5.out).2.1); rintro e w' ⟨rfl, ⟨nd, rfl⟩⟩; refine ⟨_, rfl, ?_⟩))
         go_ret
         exact ⟨zE11, zB11_0⟩
        subst c95
        have H1 : (laws_FnFlows.l1 k3 t456 t457 t460 x15_2 t499 (wrap64 (x17_3 + 1))) = some r := by rw [if_pos rfl] at H; exact H
        clear H
        have H := H1
        clear H1
        have H' := Aside0.mk H
        clear H
        obtain ⟨Ao96, co96, eo96⟩ := Kd.R_slice HO_16.out
        subst eo96
        have p502 : 0 ≤ (x17_3 : Int) := zA11
        have q502 : x17_3 < (t499.length : Int) := zA11
        obtain ⟨ad502, e502, hx502_0⟩ := Kd.at_int (Kd.R_reads' HO_16.out).2.2 x17_3 p502 q502
        cases e502
        replace p502 := eq_true p502
        replace q502 := eq_true q502
        go_wp2_with (first | ((with_reducible refine gate_callee (f := 23) rfl ?_); refine goesL_ (some 117) rfl rfl Try.func23 (by kernel_rfl) rfl #[.slice (some ad498) t460.length co90, .int .i64 (rd t499 x17_3)] rfl zT11 ?_; (with_reducible refine (laws_within.calls k3 _ _ t460 (rd t499 x17_3) true _ ?side1 ?side2 A94.out).mono ?_); (case side1 => exact zC11 (Kd.R_reads' HO_5.out).2.2); (case side2 => exact (Kd.R_reads' HO_5.out).2.1); rintro e w' ⟨rfl, ⟨nd, rfl⟩⟩; refine ⟨_, rfl, ?_⟩))
        go_roundg k3
        case measure => have := HJ9.out; have := HK2.out; have := HK3.out; omega
        case rel => exact ⟨(wrap64 (x17_3 + 1)), (by first | rfl | (simp; done) | (simp [*]; done)), H', ⟨by have := HJ9.out; have := HK2.out; have := HK3.out; omega⟩, ⟨by (with_reducible repeat (first | apply Kd.Q_alloc | apply Kd.Q_drewN | apply Kd.Q_drew)); exact HO_3.out⟩, ⟨zR11 HO_5.out⟩, ⟨zR11 HO_16.out⟩, ⟨zB11_0⟩⟩
       rw [if_neg c92] at H
       have c92b0 : decide (x17_3 < (t499.length : Int)) = false := decide_eq_false c92
       clear c92
       by_cases c98 : 0 ≤ x15_2
       rotate_left
       ·rw [if_neg c98] at H
        exact absurd H (by simp)
       rw [if_pos c98] at H
       have c98b0 : decide (0 ≤ x15_2) = true := decide_eq_true c98
       clear c98
       by_cases c99 : x15_2 < (t460.length : Int)
       rotate_left
       ·rw [if_neg c99] at H
        exact absurd H (by simp)
       rw [if_pos c99] at H
       have c99b0 : decide (x15_2 < (t460.length : Int)) = true := decide_eq_true c99
       clear c99
       replace H := Option.bind_eq_some_iff.mp H
       obtain ⟨t505, A1000, H⟩ := H
       replace H : (if t505 = true then (laws_FnFlows.l0 k3 t456 t457 t460 (wrap64 (x15_2 + 1))) else (some false)) = some r := H
       have A100 := Aside0.mk A1000
       clear A1000
       by_cases c101 : t505 = true
       rotate_left
       ·replace c101 := Bool.eq_false_iff.mpr c101
        subst c101
        have H1 : (some false) = some r := by rw [if_neg (show ¬ (false = true) by decide)] at H; exact H
        clear H
        have H := H1
        clear H1
        obtain rfl := Option.some.inj H
        obtain ⟨Ao104, co104, eo104⟩ := Kd.R_slice HO_16.out
        subst eo104
        have p504 : 0 ≤ (x15_2 : Int) := zA11
        have q504 : x15_2 < (t460.length : Int) := zA11
        obtain ⟨ad504, e504, hx504_0⟩ := Kd.at_int (Kd.R_reads' HO_5.out).2.2 x15_2 p504 q504
        obtain rfl : ad498 = ad504 := (by injection e504)
        replace p504 := eq_true p504
        replace q504 := eq_true q504
        go_wp2_with (first | ((with_reducible refine gate_callee (f := 17) rfl ?_); refine goesL_ (some 125) rfl rfl Try.func17 (by kernel_rfl) rfl #[.slice Ao12 t456.length co12, .int .i64 t457, .int .i64 (rd t460 x15_2)] rfl zT11 ?_; (with_reducible refine (impl_LeadsTo.calls k3 _ _ t456 t457 (rd t460 x15_2) false _ ?side1 ?side2 A100.out).mono ?_); (case side1 => exact zC11 (Kd.Q_reads' HO_3.out).2.2); (case side2 => exact (Kd.Q_reads' HO_3.out).2.1); rintro e w105 ⟨rfl, hb⟩; refine ⟨_, rfl, ?_⟩; have n0_ := Aside0.mk (Kd.Q_below (by (with_reducible repeat (first | apply Kd.Q_alloc | apply Kd.Q_drewN | apply Kd.Q_drew)); exact HO_3.out) hb); have n1_ := Aside0.mk (Kd.R_below (zR11 HO_5.out) hb); have n2_ := Aside0.mk (Kd.R_below (zR11 HO_16.out) hb); have n3_ := Aside0.mk (below_step (zB11_0) hb); clear HO_3; clear HO_5; clear HO_16; clear HB; have HO_3 := n0_; have HO_5 := n1_; have HO_16 := n2_; have HB := n3_; clear n0_ n1_ n2_ n3_; (try clear hb); (try clear hb2); (try clear hk); (try clear hi)))
        go_ret
        exact ⟨zE11, zB11_0⟩
       subst c101
       have H1 : (laws_FnFlows.l0 k3 t456 t457 t460 (wrap64 (x15_2 + 1))) = some r := by rw [if_pos rfl] at H; exact H
       clear H
       have H := H1
       clear H1
       have H' := Aside0.mk H
       clear H
       obtain ⟨Ao102, co102, eo102⟩ := Kd.R_slice HO_16.out
       subst eo102
       have p504 : 0 ≤ (x15_2 : Int) := zA11
       have q504 : x15_2 < (t460.length : Int) := zA11
       obtain ⟨ad504, e504, hx504_0⟩ := Kd.at_int (Kd.R_reads' HO_5.out).2.2 x15_2 p504 q504
       obtain rfl : ad498 = ad504 := (by injection e504)
       replace p504 := eq_true p504
       replace q504 := eq_true q504
       go_wp2_with (first | ((with_reducible refine gate_callee (f := 17) rfl ?_); refine goesL_ (some 125) rfl rfl Try.func17 (by kernel_rfl) rfl #[.slice Ao12 t456.length co12, .int .i64 t457, .int .i64 (rd t460 x15_2)] rfl zT11 ?_; (with_reducible refine (impl_LeadsTo.calls k3 _ _ t456 t457 (rd t460 x15_2) true _ ?side1 ?side2 A100.out).mono ?_); (case side1 => exact zC11 (Kd.Q_reads' HO_3.out).2.2); (case side2 => exact (Kd.Q_reads' HO_3.out).2.1); rintro e w103 ⟨rfl, hb⟩; refine ⟨_, rfl, ?_⟩; have n0_ := Aside0.mk (Kd.Q_below (by (with_reducible repeat (first | apply Kd.Q_alloc | apply Kd.Q_drewN | apply Kd.Q_drew)); exact HO_3.out) hb); have n1_ := Aside0.mk (Kd.R_below (zR11 HO_5.out) hb); have n2_ := Aside0.mk (Kd.R_below (zR11 HO_16.out) hb); have n3_ := Aside0.mk (below_step (zB11_0) hb); clear HO_3; clear HO_5; clear HO_16; clear HB; have HO_3 := n0_; have HO_5 := n1_; have HO_16 := n2_; have HB := n3_; clear n0_ n1_ n2_ n3_; (try clear hb); (try clear hb2); (try clear hk); (try clear hi)))
       go_roundg k3
       case measure => have := HJ9.out; have := HK2.out; have := HK3.out; omega
       case rel => exact ⟨(wrap64 (x15_2 + 1)), (by first | rfl | (simp; done) | (simp [*]; done)), H', ⟨by have := HJ9.out; have := HK2.out; have := HK3.out; omega⟩, ⟨by (with_reducible repeat (first | apply Kd.Q_alloc | apply Kd.Q_drewN | apply Kd.Q_drew)); exact Kd.Q_mono HO_3.out (fun _ hk => hk.1)⟩, ⟨by (with_reducible repeat (first | apply Kd.R_alloc | apply Kd.R_drewN | apply Kd.R_drew)); exact Kd.R_mono HO_5.out (fun _ hk => hk.1)⟩, ⟨zB11_0⟩⟩

/-- THE ONE PURE STATEMENT of laws_FnFlows: yours. -/
def laws_FnFlows.Pure : Prop := ∀ (l0 : List Int), l0.length ≤ maxLen → l0.length * 1 ≤ 140737488351232 → (∀ x ∈ l0, (Lit.int .u8 x).wf = true) → ∃ k, laws_FnFlows.f k l0 = some true
theorem laws_FnFlows.walk (P : laws_FnFlows.Pure) (a0 : Option Addr) (len0 cap0 : Nat) (z0 : List Int) (w : World) (w0 : (a0 = none ∧ len0 = 0 ∧ cap0 = 0 ∧ z0 = []) ∨ ∃ x, a0 = some x ∧ len0 ≤ cap0 ∧ cap0 ≤ maxLen ∧ z0.length = cap0 ∧ (∀ i, i < z0.length → w.cell? (x.add i) = some (.int .u8 (z0.getD i 0))) ∧ ∀ n ∈ z0, (Lit.int .u8 n).wf = true) (y0 : len0 * 1 ≤ 140737488351232) :
  Calls Try.prog 3 #[.slice a0 len0 cap0] w fun e w' => e = .returned (.bool true) ∧ Below w.heap.size w w' := by
 obtain ⟨l0, rfl, hr0, hm0, hw0, hc0⟩ := ReadsInt.ofRowC w0
 obtain ⟨k, h⟩ := P l0 hm0 y0 hw0
 refine (laws_FnFlows.calls k _ _ l0 true w (Kd.C_of_reads (d := (0 : Int)) (h1 := fun _ => rfl) hr0) hc0 h).mono ?_
 rintro e w' ⟨rfl, hd⟩
 exact ⟨rfl, hd⟩

end Go.Proofs.Ytajhfpeijagpnaa.PFnFlows
