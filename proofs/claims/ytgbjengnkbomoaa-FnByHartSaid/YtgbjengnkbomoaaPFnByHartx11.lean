-- made by wip/tools/myprint.py out of the seat's translation
import Derived.Test.YtgbjengnkbomoaaPFnByHartx0
import Derived.Test.YtgbjengnkbomoaaPFnByHartx1
import Derived.Test.YtgbjengnkbomoaaPFnByHartx2
import Derived.Test.YtgbjengnkbomoaaPFnByHartx9
import Derived.Test.YtgbjengnkbomoaaPFnByHartx10
namespace Go.Proofs.Ytgbjengnkbomoaa.PFnByHart
open Go.RowKit Go.Proofs.YtgbjengnkbomoaaW.PrintWords Go.Proofs.YtgbjengnkbomoaaW.PrintLast Go.Proofs.YtgbjengnkbomoaaW.PrintMore
attribute [local go_sem] max2_int min2_int max_two min_two max_three min_three max_four min_four   -- for this text's walks alone
set_option linter.unusedVariables false
set_option linter.unusedSimpArgs false
theorem zc11_5 {w : World} {g : Nat} {a0 a1 a2 a3 a4 : Value} {t : TypeId} (h : w.heap[g]? = some (.cells #[a0, a1, a2, a3, a4] t (0, 0))) : w.cell? ⟨g, 0, none⟩ = some a0 ∧ w.cell? ⟨g, 1, none⟩ = some a1 ∧ w.cell? ⟨g, 2, none⟩ = some a2 ∧ w.cell? ⟨g, 3, none⟩ = some a3 ∧ w.cell? ⟨g, 4, none⟩ = some a4 ∧ w.frozen? ⟨g, 0, none⟩ = false ∧ w.frozen? ⟨g, 1, none⟩ = false ∧ w.frozen? ⟨g, 2, none⟩ = false ∧ w.frozen? ⟨g, 3, none⟩ = false ∧ w.frozen? ⟨g, 4, none⟩ = false := ⟨(blk_cell h 0).trans rfl, (blk_cell h 1).trans rfl, (blk_cell h 2).trans rfl, (blk_cell h 3).trans rfl, (blk_cell h 4).trans rfl, blk_frozen h 0, blk_frozen h 1, blk_frozen h 2, blk_frozen h 3, blk_frozen h 4⟩
theorem cell_at11 {W w : World} {n : Nat} {p : Addr} {v : Value} (hq : W.drewN n = w) (h : W.cell? p = some v) : w.cell? p = some v := by rw [← hq]; exact h
theorem frozen_at11 {W w : World} {n : Nat} {p : Addr} {b : Bool} (hq : W.drewN n = w) (h : W.frozen? p = b) : w.frozen? p = b := by rw [← hq]; exact h
theorem zR11 {p q : Prop} (x : q) (h : q → p := by intro h; (with_reducible repeat (first | apply Kd.R_alloc | apply Kd.R_drewN | apply Kd.R_drew)); exact h) : p := h x
theorem zS11 {p q : Prop} (x : q) (h : q → p := by intro h; (with_reducible repeat (first | apply Kd.S_alloc | apply Kd.S_drewN | apply Kd.S_drew)); exact h) : p := h x
theorem zK11 {p q : Prop} (x : q) (h : q → p := by intro h; (with_reducible repeat (first | refine blk_drewN ?_ _ | refine blk_drew ?_ | refine blk_alloc ?_ _)); exact h) : p := h x
theorem zA11 {p : Prop} [Decidable p] (h : decide p = true := by first | (with_reducible assumption) | assumption) : p := of_decide_eq_true h
theorem zC11 {p q : Prop} (x : q) (h : q → p := by intro h; repeat (first | exact h | (with_reducible refine Kd.C_alloc ?_ _) | (with_reducible refine Kd.C_drewN ?_ _) | (with_reducible refine Kd.C_drew ?_))) : p := h x
theorem zg11 {W w w1 : World} {g : Nat} {o : Obj} {row : Option Nat} (x : W.heap[g]? = some o) (hg : w.grownBy w1 row) (hne : some g ≠ row) (h : W.heap[g]? = some o → w.heap[g]? = some o := by intro h; (with_reducible repeat (first | refine blk_drewN ?_ _ | refine blk_drew ?_ | refine blk_alloc ?_ _)); exact h) : w1.heap[g]? = some o := blk_grown (h x) hg hne
theorem zP11 {p q : Prop} (x : q) (h : q → p := by intro h; (with_reducible repeat (first | refine blk_drewN ?_ _ | refine blk_drew ?_ | refine blk_alloc ?_ _)); exact h) : p := h x
theorem zE11 {p : Prop} (h : p := by first | rfl | (simp [errW_none, errW_some] <;> rfl) | (simp [*, errW_none, errW_some] <;> rfl)) : p := h
theorem zB11_0 {p : Prop} (h : p := by repeat (first | (with_reducible first | exact HB.out | apply below_alloc | apply pw_below_drewN | apply below_drew1) | exact HB.out)) : p := h
theorem zB11_1 {p : Prop} (h : p := by repeat (first | (with_reducible first | exact HB.out | apply below_alloc | apply pw_below_drewN | apply below_drew1 | refine below_set ?_ GE583.out) | exact HB.out)) : p := h

attribute [local go_sem high] eqA34
/-! ### laws_FnByHart: function 3 -/
mutual
def laws_FnByHart.j0 : Nat → Int → List (S31) → List (List (S34)) → Bool → Option (Bool)
 | 0, _, _, _, _ => none
 | k + 1, x3, x4, x5, x26 => if x26 = true then (some ((x5.length : Int) == 0)) else (if 0 ≤ x3 then (if (x3 : Int).toNat ≤ 35184372088832 then (laws_FnByHart.l0 k x3 x4 x5 (List.replicate (x3 : Int).toNat 0) 0) else (none)) else (none))
def laws_FnByHart.l0 : Nat → Int → List (S31) → List (List (S34)) → List Int → Int → Option (Bool)
 | 0, _, _, _, _, _ => none
 | k + 1, x3, x4, x5, x6, x7 => if x7 < (x4.length : Int) then (if 0 ≤ x7 then (if ((rd_T31 x4 x7).f2) < 0 then (laws_FnByHart.j2 k x3 x4 x5 x6 x7 true ((rd_T31 x4 x7).f0) ((rd_T31 x4 x7).f1) ((rd_T31 x4 x7).f2) ((rd_T31 x4 x7).f3) ((rd_T31 x4 x7).f4)) else (if ((rd_T31 x4 x7).f0) < 0 then (laws_FnByHart.j2 k x3 x4 x5 x6 x7 true ((rd_T31 x4 x7).f0) ((rd_T31 x4 x7).f1) ((rd_T31 x4 x7).f2) ((rd_T31 x4 x7).f3) ((rd_T31 x4 x7).f4)) else (laws_FnByHart.j2 k x3 x4 x5 x6 x7 (decide (((rd_T31 x4 x7).f0) ≥ x3)) ((rd_T31 x4 x7).f0) ((rd_T31 x4 x7).f1) ((rd_T31 x4 x7).f2) ((rd_T31 x4 x7).f3) ((rd_T31 x4 x7).f4)))) else (none)) else (laws_FnByHart.l1 k x3 x5 x6 0)
def laws_FnByHart.j2 : Nat → Int → List (S31) → List (List (S34)) → List Int → Int → Bool → Int → Int → Int → Int → Int → Option (Bool)
 | 0, _, _, _, _, _, _, _, _, _, _, _ => none
 | k + 1, x3, x4, x5, x6, x7, x55, x584000, x584001, x584002, x584003, x584004 => if x55 = true then (laws_FnByHart.l0 k x3 x4 x5 x6 (wrap64 (x7 + 1))) else (if 0 ≤ x584000 then (if x584000 < (x6.length : Int) then (if x584000 < (x5.length : Int) then (if (rd x6 x584000) ≥ ((rd_L7 x5 x584000).length : Int) then (some false) else (if 0 ≤ (rd x6 x584000) then (if (rd x6 x584000) < ((rd_L7 x5 x584000).length : Int) then (if (!(((rd_T34 (rd_L7 x5 x584000) (rd x6 x584000)).f0) == x584002) || (!(((rd_T34 (rd_L7 x5 x584000) (rd x6 x584000)).f1) == x584003) || (!(((rd_T34 (rd_L7 x5 x584000) (rd x6 x584000)).f2) == x584004)))) = true then (some false) else (laws_FnByHart.l0 k x3 x4 x5 (x6.set (x584000 : Int).toNat (wrap64 ((rd x6 x584000) + 1))) (wrap64 (x7 + 1)))) else (none)) else (none))) else (none)) else (none)) else (none))
def laws_FnByHart.l1 : Nat → Int → List (List (S34)) → List Int → Int → Option (Bool)
 | 0, _, _, _, _ => none
 | k + 1, x3, x5, x6, x10 => if x10 < x3 then (if 0 ≤ x10 then (if x10 < (x6.length : Int) then (if x10 < (x5.length : Int) then (if (rd x6 x10) = ((rd_L7 x5 x10).length : Int) then (laws_FnByHart.l1 k x3 x5 x6 (wrap64 (x10 + 1))) else (some false)) else (none)) else (none)) else (none)) else (some ((x5.length : Int) == x3))
end
def laws_FnByHart.f (k : Nat) (l0 : List Int) : Option (Bool) := (laws_big.f l0).bind fun t571 => (if t571 = true then (some true) else ((spec_DrawByHart.f k l0).bind fun bt572 => ((impl_ByHart.f k bt572.1 bt572.2).bind fun t576 => (if bt572.1 < 1 then (laws_FnByHart.j0 k bt572.1 bt572.2 t576 true) else (laws_FnByHart.j0 k bt572.1 bt572.2 t576 (decide (bt572.1 > 8)))))))
theorem laws_FnByHart.mono_l : ∀ k, (∀ y0 y1 y2 y3, LeO (laws_FnByHart.j0 k y0 y1 y2 y3) (laws_FnByHart.j0 (k + 1) y0 y1 y2 y3)) ∧ (∀ y0 y1 y2 y3 y4, LeO (laws_FnByHart.l0 k y0 y1 y2 y3 y4) (laws_FnByHart.l0 (k + 1) y0 y1 y2 y3 y4)) ∧ (∀ y0 y1 y2 y3 y4 y5 y6 y7 y8 y9 y10, LeO (laws_FnByHart.j2 k y0 y1 y2 y3 y4 y5 y6 y7 y8 y9 y10) (laws_FnByHart.j2 (k + 1) y0 y1 y2 y3 y4 y5 y6 y7 y8 y9 y10)) ∧ (∀ y0 y1 y2 y3, LeO (laws_FnByHart.l1 k y0 y1 y2 y3) (laws_FnByHart.l1 (k + 1) y0 y1 y2 y3))
 | 0 => ⟨fun _ _ _ _ r h => by simp [laws_FnByHart.j0] at h, fun _ _ _ _ _ r h => by simp [laws_FnByHart.l0] at h, fun _ _ _ _ _ _ _ _ _ _ _ r h => by simp [laws_FnByHart.j2] at h, fun _ _ _ _ r h => by simp [laws_FnByHart.l1] at h⟩
 | k + 1 => by
  obtain ⟨ih0, ih1, ih2, ih3⟩ := laws_FnByHart.mono_l k
  refine ⟨?_, ?_, ?_, ?_⟩
  ·intro y0 y1 y2 y3
   unfold laws_FnByHart.j0
   repeat' first
   | (with_reducible exact ih0 _ _ _ _)
   | (with_reducible exact ih1 _ _ _ _ _)
   | (with_reducible exact ih2 _ _ _ _ _ _ _ _ _ _ _)
   | (with_reducible exact ih3 _ _ _ _)
   | (with_reducible exact impl_ByHart.mono _ _ _)
   | (with_reducible exact spec_DrawByHart.mono _ _)
   | (with_reducible exact LeO.refl _)
   | (with_reducible exact LeO.none _)
   | (with_reducible refine LeO.ite ?_ ?_)
   | (with_reducible refine LeO.bind ?_ (fun _ => ?_))
   | exact ih0 _ _ _ _
   | exact ih1 _ _ _ _ _
   | exact ih2 _ _ _ _ _ _ _ _ _ _ _
   | exact ih3 _ _ _ _
   | exact impl_ByHart.mono _ _ _
   | exact spec_DrawByHart.mono _ _
   | exact LeO.none _
   | refine LeO.ite ?_ ?_
   | refine LeO.bind ?_ (fun _ => ?_)
  ·intro y0 y1 y2 y3 y4
   unfold laws_FnByHart.l0
   repeat' first
   | (with_reducible exact ih0 _ _ _ _)
   | (with_reducible exact ih1 _ _ _ _ _)
   | (with_reducible exact ih2 _ _ _ _ _ _ _ _ _ _ _)
   | (with_reducible exact ih3 _ _ _ _)
   | (with_reducible exact impl_ByHart.mono _ _ _)
   | (with_reducible exact spec_DrawByHart.mono _ _)
   | (with_reducible exact LeO.refl _)
   | (with_reducible exact LeO.none _)
   | (with_reducible refine LeO.ite ?_ ?_)
   | (with_reducible refine LeO.bind ?_ (fun _ => ?_))
   | exact ih0 _ _ _ _
   | exact ih1 _ _ _ _ _
   | exact ih2 _ _ _ _ _ _ _ _ _ _ _
   | exact ih3 _ _ _ _
   | exact impl_ByHart.mono _ _ _
   | exact spec_DrawByHart.mono _ _
   | exact LeO.none _
   | refine LeO.ite ?_ ?_
   | refine LeO.bind ?_ (fun _ => ?_)
  ·intro y0 y1 y2 y3 y4 y5 y6 y7 y8 y9 y10
   unfold laws_FnByHart.j2
   repeat' first
   | (with_reducible exact ih0 _ _ _ _)
   | (with_reducible exact ih1 _ _ _ _ _)
   | (with_reducible exact ih2 _ _ _ _ _ _ _ _ _ _ _)
   | (with_reducible exact ih3 _ _ _ _)
   | (with_reducible exact impl_ByHart.mono _ _ _)
   | (with_reducible exact spec_DrawByHart.mono _ _)
   | (with_reducible exact LeO.refl _)
   | (with_reducible exact LeO.none _)
   | (with_reducible refine LeO.ite ?_ ?_)
   | (with_reducible refine LeO.bind ?_ (fun _ => ?_))
   | exact ih0 _ _ _ _
   | exact ih1 _ _ _ _ _
   | exact ih2 _ _ _ _ _ _ _ _ _ _ _
   | exact ih3 _ _ _ _
   | exact impl_ByHart.mono _ _ _
   | exact spec_DrawByHart.mono _ _
   | exact LeO.none _
   | refine LeO.ite ?_ ?_
   | refine LeO.bind ?_ (fun _ => ?_)
  ·intro y0 y1 y2 y3
   unfold laws_FnByHart.l1
   repeat' first
   | (with_reducible exact ih0 _ _ _ _)
   | (with_reducible exact ih1 _ _ _ _ _)
   | (with_reducible exact ih2 _ _ _ _ _ _ _ _ _ _ _)
   | (with_reducible exact ih3 _ _ _ _)
   | (with_reducible exact impl_ByHart.mono _ _ _)
   | (with_reducible exact spec_DrawByHart.mono _ _)
   | (with_reducible exact LeO.refl _)
   | (with_reducible exact LeO.none _)
   | (with_reducible refine LeO.ite ?_ ?_)
   | (with_reducible refine LeO.bind ?_ (fun _ => ?_))
   | exact ih0 _ _ _ _
   | exact ih1 _ _ _ _ _
   | exact ih2 _ _ _ _ _ _ _ _ _ _ _
   | exact ih3 _ _ _ _
   | exact impl_ByHart.mono _ _ _
   | exact spec_DrawByHart.mono _ _
   | exact LeO.none _
   | refine LeO.ite ?_ ?_
   | refine LeO.bind ?_ (fun _ => ?_)
theorem laws_FnByHart.mono : ∀ a0 k, LeO (laws_FnByHart.f k a0) (laws_FnByHart.f (k + 1) a0) := by
 intro a0 k
 obtain ⟨ih0, ih1, ih2, ih3⟩ := laws_FnByHart.mono_l k
 unfold laws_FnByHart.f
 repeat' first
   | (with_reducible exact ih0 _ _ _ _)
   | (with_reducible exact ih1 _ _ _ _ _)
   | (with_reducible exact ih2 _ _ _ _ _ _ _ _ _ _ _)
   | (with_reducible exact ih3 _ _ _ _)
   | (with_reducible exact impl_ByHart.mono _ _ _)
   | (with_reducible exact spec_DrawByHart.mono _ _)
   | (with_reducible exact LeO.refl _)
   | (with_reducible exact LeO.none _)
   | (with_reducible refine LeO.ite ?_ ?_)
   | (with_reducible refine LeO.bind ?_ (fun _ => ?_))
   | exact ih0 _ _ _ _
   | exact ih1 _ _ _ _ _
   | exact ih2 _ _ _ _ _ _ _ _ _ _ _
   | exact ih3 _ _ _ _
   | exact impl_ByHart.mono _ _ _
   | exact spec_DrawByHart.mono _ _
   | exact LeO.none _
   | refine LeO.ite ?_ ?_
   | refine LeO.bind ?_ (fun _ => ?_)
set_option maxHeartbeats 8000000 in
set_option maxRecDepth 100000 in
theorem laws_FnByHart.calls (k : Nat) (A0 : Option Addr) (c0 : Nat) (l0 : List Int) (r : Bool) (w : World) (hr0 : Kd.C (Kd.int .u8) w A0 l0.length l0) (hc0 : l0.length ≤ c0) (h : laws_FnByHart.f k l0 = some r) :
  Calls Try.prog 3 #[.slice A0 l0.length c0] w fun e w' => e = .returned (.bool r) ∧ Below w.heap.size w w' := by
 have hu31 := Try.underlying31
 have hu34 := Try.underlying34
 have HR0 := Aside0.mk hr0
 have HC0 := Aside0.mk hc0
 clear hr0 hc0
 have HB := Aside0.mk (Below.refl w.heap.size w)
 have H : ((laws_big.f l0).bind fun t571 => (if t571 = true then (some true) else ((spec_DrawByHart.f k l0).bind fun bt572 => ((impl_ByHart.f k bt572.1 bt572.2).bind fun t576 => (if bt572.1 < 1 then (laws_FnByHart.j0 k bt572.1 bt572.2 t576 true) else (laws_FnByHart.j0 k bt572.1 bt572.2 t576 (decide (bt572.1 > 8)))))))) = some r := h
 clear h
 replace H := Option.bind_eq_some_iff.mp H
 obtain ⟨t571, A20, H⟩ := H
 replace H : (if t571 = true then (some true) else ((spec_DrawByHart.f k l0).bind fun bt572 => ((impl_ByHart.f k bt572.1 bt572.2).bind fun t576 => (if bt572.1 < 1 then (laws_FnByHart.j0 k bt572.1 bt572.2 t576 true) else (laws_FnByHart.j0 k bt572.1 bt572.2 t576 (decide (bt572.1 > 8))))))) = some r := H
 have A2 := Aside0.mk A20
 clear A20
 by_cases c3 : t571 = true
 ·subst c3
  have H1 : (some true) = some r := by rw [if_pos rfl] at H; exact H
  clear H
  have H := H1
  clear H1
  obtain rfl := Option.some.inj H
  go_enter Try.func3, Try.ntmps3
  go_wp2_with (first | (go_at_call 8; (with_reducible refine (laws_big.calls _ _ l0 true _ ?side1 ?side2 A2.out).mono ?_); (case side1 => exact zC11 HR0.out); (case side2 => exact HC0.out); rintro e w' ⟨rfl, ⟨nd, rfl⟩⟩; (try first | exact ⟨rfl, _, World.drewN_drewN _ _ _⟩ | exact ⟨rfl, _, Eq.trans (World.drewN_drewN _ _ _) (congrArg (World.drewN _) (Nat.add_assoc _ _ _))⟩)))
  repeat (go_quiet (first | (go_at_call 8; (with_reducible refine (laws_big.calls _ _ l0 true _ ?side1 ?side2 A2.out).mono ?_); (case side1 => exact zC11 HR0.out); (case side2 => exact HC0.out); rintro e w' ⟨rfl, ⟨nd, rfl⟩⟩; (try first | exact ⟨rfl, _, World.drewN_drewN _ _ _⟩ | exact ⟨rfl, _, Eq.trans (World.drewN_drewN _ _ _) (congrArg (World.drewN _) (Nat.add_assoc _ _ _))⟩))); try go_wp2_with (first | (go_at_call 8; (with_reducible refine (laws_big.calls _ _ l0 true _ ?side1 ?side2 A2.out).mono ?_); (case side1 => exact zC11 HR0.out); (case side2 => exact HC0.out); rintro e w' ⟨rfl, ⟨nd, rfl⟩⟩; (try first | exact ⟨rfl, _, World.drewN_drewN _ _ _⟩ | exact ⟨rfl, _, Eq.trans (World.drewN_drewN _ _ _) (congrArg (World.drewN _) (Nat.add_assoc _ _ _))⟩))))
  go_ret
  exact ⟨zE11, zB11_0⟩
 replace c3 := Bool.eq_false_iff.mpr c3
 subst c3
 have H1 : ((spec_DrawByHart.f k l0).bind fun bt572 => ((impl_ByHart.f k bt572.1 bt572.2).bind fun t576 => (if bt572.1 < 1 then (laws_FnByHart.j0 k bt572.1 bt572.2 t576 true) else (laws_FnByHart.j0 k bt572.1 bt572.2 t576 (decide (bt572.1 > 8)))))) = some r := by rw [if_neg (show ¬ (false = true) by decide)] at H; exact H
 clear H
 have H := H1
 clear H1
 replace H := Option.bind_eq_some_iff.mp H
 obtain ⟨⟨t572, t573⟩, A40, H⟩ := H
 replace H : ((impl_ByHart.f k t572 t573).bind fun t576 => (if t572 < 1 then (laws_FnByHart.j0 k t572 t573 t576 true) else (laws_FnByHart.j0 k t572 t573 t576 (decide (t572 > 8))))) = some r := H
 have A4 := Aside0.mk A40
 clear A40
 replace H := Option.bind_eq_some_iff.mp H
 obtain ⟨t576, A50, H⟩ := H
 replace H : (if t572 < 1 then (laws_FnByHart.j0 k t572 t573 t576 true) else (laws_FnByHart.j0 k t572 t573 t576 (decide (t572 > 8)))) = some r := H
 have A5 := Aside0.mk A50
 clear A50
 have HC6 := Aside0.mk H
 clear H
 go_enter Try.func3, Try.ntmps3
 go_upto_region 5 with (first | (go_at_call 8; (with_reducible refine (laws_big.calls _ _ l0 false _ ?side1 ?side2 A2.out).mono ?_); (case side1 => exact zC11 HR0.out); (case side2 => exact HC0.out); rintro e w' ⟨rfl, ⟨nd, rfl⟩⟩; (try first | exact ⟨rfl, _, World.drewN_drewN _ _ _⟩ | exact ⟨rfl, _, Eq.trans (World.drewN_drewN _ _ _) (congrArg (World.drewN _) (Nat.add_assoc _ _ _))⟩)) | (go_at_call 9; (with_reducible refine (spec_DrawByHart.calls k _ _ l0 t572 t573 _ ?side1 ?side2 A4.out).mono ?_); (case side1 => exact zC11 HR0.out); (case side2 => exact HC0.out); rintro e w7 ⟨v574, rfl, ho0, hb⟩; have n0_ := Aside0.mk (Kd.R_lower ho0 (below_size (zB11_0))); have n1_ := Aside0.mk (below_step (zB11_0) hb); clear HB; have HO575 := n0_; have HB := n1_; clear n0_ n1_; (try clear hb); (try clear hb2); (try clear hk); (try clear hi); (try clear ho0); obtain ⟨Ao8, co8, eo8⟩ := Kd.R_slice HO575.out; subst eo8) | (go_at_call 10; (with_reducible refine (impl_ByHart.calls k t572 _ _ t573 t576 _ ?side1 ?side2 A5.out).mono ?_); (case side1 => exact zC11 (Kd.R_reads' HO575.out).2.2); (case side2 => exact (Kd.R_reads' HO575.out).2.1); rintro e w9 ⟨v577, rfl, ho0, hb⟩; have n0_ := Aside0.mk (Kd.R_below (zR11 HO575.out) hb); have n1_ := Aside0.mk (Kd.S_lower ho0 (below_size (zB11_0))); have n2_ := Aside0.mk (below_step (zB11_0) hb); clear HO575; clear HB; have HO575 := n0_; have HO578 := n1_; have HB := n2_; clear n0_ n1_ n2_; (try clear hb); (try clear hb2); (try clear hk); (try clear hi); (try clear ho0)))
 repeat (go_quiet (first | (go_at_call 8; (with_reducible refine (laws_big.calls _ _ l0 false _ ?side1 ?side2 A2.out).mono ?_); (case side1 => exact zC11 HR0.out); (case side2 => exact HC0.out); rintro e w' ⟨rfl, ⟨nd, rfl⟩⟩; (try first | exact ⟨rfl, _, World.drewN_drewN _ _ _⟩ | exact ⟨rfl, _, Eq.trans (World.drewN_drewN _ _ _) (congrArg (World.drewN _) (Nat.add_assoc _ _ _))⟩)) | (go_at_call 9; (with_reducible refine (spec_DrawByHart.calls k _ _ l0 t572 t573 _ ?side1 ?side2 A4.out).mono ?_); (case side1 => exact zC11 HR0.out); (case side2 => exact HC0.out); rintro e w7 ⟨v574, rfl, ho0, hb⟩; have n0_ := Aside0.mk (Kd.R_lower ho0 (below_size (zB11_0))); have n1_ := Aside0.mk (below_step (zB11_0) hb); clear HB; have HO575 := n0_; have HB := n1_; clear n0_ n1_; (try clear hb); (try clear hb2); (try clear hk); (try clear hi); (try clear ho0); obtain ⟨Ao8, co8, eo8⟩ := Kd.R_slice HO575.out; subst eo8) | (go_at_call 10; (with_reducible refine (impl_ByHart.calls k t572 _ _ t573 t576 _ ?side1 ?side2 A5.out).mono ?_); (case side1 => exact zC11 (Kd.R_reads' HO575.out).2.2); (case side2 => exact (Kd.R_reads' HO575.out).2.1); rintro e w9 ⟨v577, rfl, ho0, hb⟩; have n0_ := Aside0.mk (Kd.R_below (zR11 HO575.out) hb); have n1_ := Aside0.mk (Kd.S_lower ho0 (below_size (zB11_0))); have n2_ := Aside0.mk (below_step (zB11_0) hb); clear HO575; clear HB; have HO575 := n0_; have HO578 := n1_; have HB := n2_; clear n0_ n1_ n2_; (try clear hb); (try clear hb2); (try clear hk); (try clear hi); (try clear ho0))); go_upto_region 5 with (first | (go_at_call 8; (with_reducible refine (laws_big.calls _ _ l0 false _ ?side1 ?side2 A2.out).mono ?_); (case side1 => exact zC11 HR0.out); (case side2 => exact HC0.out); rintro e w' ⟨rfl, ⟨nd, rfl⟩⟩; (try first | exact ⟨rfl, _, World.drewN_drewN _ _ _⟩ | exact ⟨rfl, _, Eq.trans (World.drewN_drewN _ _ _) (congrArg (World.drewN _) (Nat.add_assoc _ _ _))⟩)) | (go_at_call 9; (with_reducible refine (spec_DrawByHart.calls k _ _ l0 t572 t573 _ ?side1 ?side2 A4.out).mono ?_); (case side1 => exact zC11 HR0.out); (case side2 => exact HC0.out); rintro e w7 ⟨v574, rfl, ho0, hb⟩; have n0_ := Aside0.mk (Kd.R_lower ho0 (below_size (zB11_0))); have n1_ := Aside0.mk (below_step (zB11_0) hb); clear HB; have HO575 := n0_; have HB := n1_; clear n0_ n1_; (try clear hb); (try clear hb2); (try clear hk); (try clear hi); (try clear ho0); obtain ⟨Ao8, co8, eo8⟩ := Kd.R_slice HO575.out; subst eo8) | (go_at_call 10; (with_reducible refine (impl_ByHart.calls k t572 _ _ t573 t576 _ ?side1 ?side2 A5.out).mono ?_); (case side1 => exact zC11 (Kd.R_reads' HO575.out).2.2); (case side2 => exact (Kd.R_reads' HO575.out).2.1); rintro e w9 ⟨v577, rfl, ho0, hb⟩; have n0_ := Aside0.mk (Kd.R_below (zR11 HO575.out) hb); have n1_ := Aside0.mk (Kd.S_lower ho0 (below_size (zB11_0))); have n2_ := Aside0.mk (below_step (zB11_0) hb); clear HO575; clear HB; have HO575 := n0_; have HO578 := n1_; have HB := n2_; clear n0_ n1_ n2_; (try clear hb); (try clear hb2); (try clear hk); (try clear hi); (try clear ho0))))
 (try simp only [Act.put, List.setIfInBounds_toArray, List.set_cons_zero, List.set_cons_succ])
 go_cut [26] (fun v26 wc => ∃ (kq : Nat) (x26_5 : Bool), v26 = .bool x26_5 ∧ Aside0 (laws_FnByHart.j0 kq t572 t573 t576 x26_5 = some r) ∧ Aside0 (kq ≤ k) ∧ Aside0 (Kd.R k31 31 wc w.heap.size (fun _ => True) (.slice Ao8 t573.length co8) t573) ∧ Aside0 (Kd.S (Kd.slice 34 k34) 32 wc w.heap.size (fun _ => True) v577 t576) ∧ Aside0 (Below w.heap.size w wc))
 case first =>
  have H := HC6.out
  clear HC6
  by_cases c10 : t572 < 1
  ·rw [if_pos c10] at H
   have c10b0 : decide (t572 < 1) = true := decide_eq_true c10
   clear c10
   (first | rw [c10b0] | (simp only [i64_w, i32_w]; rw [c10b0]) | skip)
   have H' := Aside0.mk H
   clear H
   go_wp2
   repeat (go_quiet (fail); try go_wp2)
   go_meet
   case rel => exact ⟨_, (true), (by first | rfl | (simp; done) | (simp [*]; done)), H', ⟨by first | omega | exact Nat.le_refl _⟩, ⟨zR11 HO575.out⟩, ⟨zS11 HO578.out⟩, ⟨zB11_0⟩⟩
  rw [if_neg c10] at H
  have c10b0 : decide (t572 < 1) = false := decide_eq_false c10
  clear c10
  (first | rw [c10b0] | (simp only [i64_w, i32_w]; rw [c10b0]) | skip)
  have H' := Aside0.mk H
  clear H
  go_wp2
  repeat (go_quiet (fail); try go_wp2)
  go_meet
  case rel => exact ⟨_, (decide (t572 > 8)), (by first | rfl | (simp; done) | (simp [*]; done)), H', ⟨by first | omega | exact Nat.le_refl _⟩, ⟨zR11 HO575.out⟩, ⟨zS11 HO578.out⟩, ⟨zB11_0⟩⟩
 case rest =>
  clear HC6
  try clear c1
  try clear p2
  try clear c3
  try clear c10
  try clear c10b0
  obtain ⟨kq, x26_5, rfl, HA, HJ5, HO_4, HO_5, HB⟩ := hcut
  cases kq with
  | zero => exact absurd HA.out (by simp [laws_FnByHart.j0])
  | succ kj5 =>
   have H := HA.out
   clear HA
   simp only [laws_FnByHart.j0] at H
   by_cases c11 : x26_5 = true
   ·subst c11
    have H1 : (some ((t576.length : Int) == 0)) = some r := by rw [if_pos rfl] at H; exact H
    clear H
    have H := H1
    clear H1
    obtain rfl := Option.some.inj H
    obtain ⟨Ao12, co12, eo12⟩ := Kd.S_slice HO_5.out
    subst eo12
    go_wp2
    repeat (go_quiet (fail); try go_wp2)
    go_ret
    exact ⟨zE11, zB11_0⟩
   replace c11 := Bool.eq_false_iff.mpr c11
   subst c11
   have H1 : (if 0 ≤ t572 then (if (t572 : Int).toNat ≤ 35184372088832 then (laws_FnByHart.l0 kj5 t572 t573 t576 (List.replicate (t572 : Int).toNat 0) 0) else (none)) else (none)) = some r := by rw [if_neg (show ¬ (false = true) by decide)] at H; exact H
   clear H
   have H := H1
   clear H1
   by_cases c13 : 0 ≤ t572
   rotate_left
   ·rw [if_neg c13] at H
    exact absurd H (by simp)
   rw [if_pos c13] at H
   have c13b0 := eq_true c13
   have c13b1 : decide (0 ≤ t572) = true := decide_eq_true c13
   clear c13
   by_cases c14 : (t572 : Int).toNat ≤ 35184372088832
   rotate_left
   ·rw [if_neg c14] at H
    exact absurd H (by simp)
   rw [if_pos c14] at H
   have c14b0 := eq_true c14
   have c14b1 : decide ((t572 : Int).toNat ≤ 35184372088832) = true := decide_eq_true c14
   clear c14
   obtain ⟨y579, hy579⟩ : ∃ y_ : List Int, y_ = (List.replicate (t572 : Int).toNat 0) := ⟨_, rfl⟩
   replace H : (laws_FnByHart.l0 kj5 t572 t573 t576 y579 0) = some r := by first | (rw [hy579]; with_reducible exact H) | (have H2_ := (Option.bind_some _ _).symm.trans H; rw [hy579]; with_reducible exact H2_) | (have H2_ := (Option.bind_some _ _).symm.trans H; with_reducible exact H2_) | with_reducible exact H | (rw [hy579]; exact H) | exact H
   have Ny579 := Aside0.mk hy579
   clear hy579
   have H' := Aside0.mk H
   clear H
   go_wp2_with (first | ((with_reducible refine gate_dst (N := 31) rfl ?_); refine Kd.R_make (Kd.int .i64) _ 3 rfl (N := 31) rfl 29 _ _ rfl t572 rfl rfl Try.underlying29 (.int .i64 0) 8 info3 rfl (by decide) (by omega) 0 (ok := fun _ => True) (okp := fun _ => True) rfl (fun _ hk => hk) trivial (zA11) (Nat.le_trans (Nat.mul_le_mul_right _ (zA11 : t572.toNat ≤ 35184372088832)) (by omega)) (Below.refl _ _) (Nat.le_refl _) ?_; intro v580 w15 ho16 hb hg_ hnew_; clear hg_ hnew_; (first | rw [← Ny579.out] at ho16 | (simp only [Int.reduceToNat] at ho16; rw [← Ny579.out] at ho16)); have n0_ := Aside0.mk (Kd.R_below (zR11 HO_4.out) hb); have n1_ := Aside0.mk (Kd.S_below (zS11 HO_5.out) hb); have n2_ := Aside0.mk (Kd.R_lower ho16 (below_size (zB11_0))); have n3_ := Aside0.mk (below_step (zB11_0) hb); clear HO_4; clear HO_5; clear HB; have HO_4 := n0_; have HO_5 := n1_; have HO581 := n2_; have HB := n3_; clear n0_ n1_ n2_ n3_; clear hb ho16))
   repeat (go_quiet (first | ((with_reducible refine gate_dst (N := 31) rfl ?_); refine Kd.R_make (Kd.int .i64) _ 3 rfl (N := 31) rfl 29 _ _ rfl t572 rfl rfl Try.underlying29 (.int .i64 0) 8 info3 rfl (by decide) (by omega) 0 (ok := fun _ => True) (okp := fun _ => True) rfl (fun _ hk => hk) trivial (zA11) (Nat.le_trans (Nat.mul_le_mul_right _ (zA11 : t572.toNat ≤ 35184372088832)) (by omega)) (Below.refl _ _) (Nat.le_refl _) ?_; intro v580 w15 ho16 hb hg_ hnew_; clear hg_ hnew_; (first | rw [← Ny579.out] at ho16 | (simp only [Int.reduceToNat] at ho16; rw [← Ny579.out] at ho16)); have n0_ := Aside0.mk (Kd.R_below (zR11 HO_4.out) hb); have n1_ := Aside0.mk (Kd.S_below (zS11 HO_5.out) hb); have n2_ := Aside0.mk (Kd.R_lower ho16 (below_size (zB11_0))); have n3_ := Aside0.mk (below_step (zB11_0) hb); clear HO_4; clear HO_5; clear HB; have HO_4 := n0_; have HO_5 := n1_; have HO581 := n2_; have HB := n3_; clear n0_ n1_ n2_ n3_; clear hb ho16)); try go_wp2_with (first | ((with_reducible refine gate_dst (N := 31) rfl ?_); refine Kd.R_make (Kd.int .i64) _ 3 rfl (N := 31) rfl 29 _ _ rfl t572 rfl rfl Try.underlying29 (.int .i64 0) 8 info3 rfl (by decide) (by omega) 0 (ok := fun _ => True) (okp := fun _ => True) rfl (fun _ hk => hk) trivial (zA11) (Nat.le_trans (Nat.mul_le_mul_right _ (zA11 : t572.toNat ≤ 35184372088832)) (by omega)) (Below.refl _ _) (Nat.le_refl _) ?_; intro v580 w15 ho16 hb hg_ hnew_; clear hg_ hnew_; (first | rw [← Ny579.out] at ho16 | (simp only [Int.reduceToNat] at ho16; rw [← Ny579.out] at ho16)); have n0_ := Aside0.mk (Kd.R_below (zR11 HO_4.out) hb); have n1_ := Aside0.mk (Kd.S_below (zS11 HO_5.out) hb); have n2_ := Aside0.mk (Kd.R_lower ho16 (below_size (zB11_0))); have n3_ := Aside0.mk (below_step (zB11_0) hb); clear HO_4; clear HO_5; clear HB; have HO_4 := n0_; have HO_5 := n1_; have HO581 := n2_; have HB := n3_; clear n0_ n1_ n2_ n3_; clear hb ho16)))
   go_loopg [7] kj5 (fun kq v7 w' => ∃ (x6_2 : List Int) (x7_2 : Int), v7 = .int .i64 x7_2 ∧ Aside0 (laws_FnByHart.l0 kq t572 t573 t576 x6_2 x7_2 = some r) ∧ Aside0 (kq ≤ kj5) ∧ Aside0 (Kd.R k31 31 w' w.heap.size (fun _ => True) (.slice Ao8 t573.length co8) t573) ∧ Aside0 (Kd.S (Kd.slice 34 k34) 32 w' w.heap.size (fun _ => True) v577 t576) ∧ Aside0 (Kd.R (Kd.int .i64) 3 w' w.heap.size (fun _ => True) v580 x6_2) ∧ Aside0 (Below w.heap.size w w'))
   case atStart => exact ⟨(y579), (0), (by first | rfl | (simp; done) | (simp [*]; done)), H', ⟨Nat.le_refl _⟩, ⟨zR11 HO_4.out⟩, ⟨zS11 HO_5.out⟩, ⟨zR11 HO581.out⟩, ⟨zB11_0⟩⟩
   case round =>
    clear H'
    try clear c1
    try clear p2
    try clear c3
    try clear c10
    try clear c10b0
    try clear c11
    try clear c13
    try clear c13b0
    try clear c13b1
    try clear c14
    try clear c14b0
    try clear c14b1
    try clear p2
    obtain ⟨x6_2, x7_2, rfl, HA, HK2, HO_4, HO_5, HO_6, HB⟩ := hrel
    cases gk with
    | zero => exact absurd HA.out (by simp [laws_FnByHart.l0])
    | succ k2 =>
     have H := HA.out
     clear HA
     simp only [laws_FnByHart.l0] at H
     by_cases c17 : x7_2 < (t573.length : Int)
     rotate_left
     ·rw [if_neg c17] at H
      have c17b0 : decide (x7_2 < (t573.length : Int)) = false := decide_eq_false c17
      clear c17
      have H' := Aside0.mk H
      clear H
      go_wp2
      repeat (go_quiet (fail); try go_wp2)
      go_loopg [10] k2 (fun kq v10 w' => ∃ (x10_3 : Int), v10 = .int .i64 x10_3 ∧ Aside0 (laws_FnByHart.l1 kq t572 t576 x6_2 x10_3 = some r) ∧ Aside0 (kq ≤ k2) ∧ Aside0 (Kd.S (Kd.slice 34 k34) 32 w' w.heap.size (fun _ => True) v577 t576) ∧ Aside0 (Kd.R (Kd.int .i64) 3 w' w.heap.size (fun _ => True) v580 x6_2) ∧ Aside0 (Below w.heap.size w w'))
      case atStart => exact ⟨(0), (by first | rfl | (simp; done) | (simp [*]; done)), H', ⟨Nat.le_refl _⟩, ⟨zS11 HO_5.out⟩, ⟨zR11 HO_6.out⟩, ⟨zB11_0⟩⟩
      case round =>
       clear H'
       try clear c1
       try clear c2
       try clear p2
       try clear c3
       try clear p4
       try clear q4
       try clear hx4
       try clear hf4
       try clear c5
       try clear p5
       try clear q5
       try clear hx5
       try clear p6
       try clear c10
       try clear c10b0
       try clear c11
       try clear c13
       try clear c13b0
       try clear c13b1
       try clear c14
       try clear c14b0
       try clear c14b1
       try clear c17
       try clear c17b0
       try clear c18
       try clear c18b0
       try clear c22
       try clear c22b0
       try clear c24
       try clear c24b0
       try clear c27
       try clear c28
       try clear c28b0
       try clear c29
       try clear c29b0
       try clear c30
       try clear c30b0
       try clear c31
       try clear c31b0
       try clear c35
       try clear c35b0
       try clear c36
       try clear c36b0
       try clear c37
       try clear c37b0
       try clear p41
       try clear q41
       try clear hx41
       try clear hf41
       try clear hcz21_0
       try clear hcz21_1
       try clear hcz21_2
       try clear hcz21_3
       try clear hcz21_4
       try clear hcz23_0
       try clear hcz23_1
       try clear hcz23_2
       try clear hcz23_3
       try clear hcz23_4
       try clear hcz25_0
       try clear hcz25_1
       try clear hcz25_2
       try clear hcz25_3
       try clear hcz25_4
       try clear hcz26_0
       try clear hcz26_1
       try clear hcz26_2
       try clear hcz26_3
       try clear hcz26_4
       try clear hcz32_0
       try clear hcz32_1
       try clear hcz32_2
       try clear hcz32_3
       try clear hcz32_4
       try clear hcz38_0
       try clear hcz38_1
       try clear hcz38_2
       try clear hcz38_3
       try clear hcz38_4
       try clear hcz42_0
       try clear hcz42_1
       try clear hcz42_2
       try clear hcz42_3
       try clear hcz42_4
       try clear hfz21_0
       try clear hfz21_1
       try clear hfz21_2
       try clear hfz21_3
       try clear hfz21_4
       try clear hfz23_0
       try clear hfz23_1
       try clear hfz23_2
       try clear hfz23_3
       try clear hfz23_4
       try clear hfz25_0
       try clear hfz25_1
       try clear hfz25_2
       try clear hfz25_3
       try clear hfz25_4
       try clear hfz26_0
       try clear hfz26_1
       try clear hfz26_2
       try clear hfz26_3
       try clear hfz26_4
       try clear hfz32_0
       try clear hfz32_1
       try clear hfz32_2
       try clear hfz32_3
       try clear hfz32_4
       try clear hfz38_0
       try clear hfz38_1
       try clear hfz38_2
       try clear hfz38_3
       try clear hfz38_4
       try clear hfz42_0
       try clear hfz42_1
       try clear hfz42_2
       try clear hfz42_3
       try clear hfz42_4
       try clear hx41_0
       try clear hx582_0
       try clear hx582_1
       try clear hx582_2
       try clear hx582_3
       try clear hx582_4
       try clear hx584_0
       try clear hx585_0
       try clear hx586_0
       try clear hx587_0
       try clear hx587_1
       try clear hx587_2
       try clear p2
       try clear p41
       try clear p5
       try clear p582
       try clear p584
       try clear p585
       try clear p586
       try clear p587
       try clear q41
       try clear q5
       try clear q582
       try clear q584
       try clear q585
       try clear q586
       try clear q587
       obtain ⟨x10_3, rfl, HA, HK3, HO_5, HO_6, HB⟩ := hrel
       cases gk with
       | zero => exact absurd HA.out (by simp [laws_FnByHart.l1])
       | succ k3 =>
        have H := HA.out
        clear HA
        simp only [laws_FnByHart.l1] at H
        by_cases c47 : x10_3 < t572
        rotate_left
        ·rw [if_neg c47] at H
         have c47b0 : decide (x10_3 < t572) = false := decide_eq_false c47
         clear c47
         obtain rfl := Option.some.inj H
         obtain ⟨Ao56, co56, eo56⟩ := Kd.S_slice HO_5.out
         subst eo56
         go_wp2
         repeat (go_quiet (fail); try go_wp2)
         go_ret
         exact ⟨zE11, zB11_0⟩
        rw [if_pos c47] at H
        have c47b0 : decide (x10_3 < t572) = true := decide_eq_true c47
        clear c47
        by_cases c48 : 0 ≤ x10_3
        rotate_left
        ·rw [if_neg c48] at H
         exact absurd H (by simp)
        rw [if_pos c48] at H
        have c48b0 : decide (0 ≤ x10_3) = true := decide_eq_true c48
        clear c48
        by_cases c49 : x10_3 < (x6_2.length : Int)
        rotate_left
        ·rw [if_neg c49] at H
         exact absurd H (by simp)
        rw [if_pos c49] at H
        have c49b0 : decide (x10_3 < (x6_2.length : Int)) = true := decide_eq_true c49
        clear c49
        by_cases c50 : x10_3 < (t576.length : Int)
        rotate_left
        ·rw [if_neg c50] at H
         exact absurd H (by simp)
        rw [if_pos c50] at H
        have c50b0 : decide (x10_3 < (t576.length : Int)) = true := decide_eq_true c50
        clear c50
        by_cases c51 : (rd x6_2 x10_3) = ((rd_L7 t576 x10_3).length : Int)
        rotate_left
        ·rw [if_neg c51] at H
         have c51b0 : ((rd x6_2 x10_3) == ((rd_L7 t576 x10_3).length : Int)) = false := beq_eq_false_iff_ne.mpr c51
         have c51b1 : ((rd x6_2 x10_3) != ((rd_L7 t576 x10_3).length : Int)) = true := bne_iff_ne.mpr c51
         obtain rfl := Option.some.inj H
         obtain ⟨Ao54, co54, eo54⟩ := Kd.R_slice HO_6.out
         subst eo54
         have p589 : 0 ≤ (x10_3 : Int) := zA11
         have q589 : x10_3 < (x6_2.length : Int) := zA11
         obtain ⟨ad589, e589, hx589_0⟩ := Kd.at_int (Kd.R_reads' HO_6.out).2.2 x10_3 p589 q589
         cases e589
         replace p589 := eq_true p589
         replace q589 := eq_true q589
         obtain ⟨Ao55, co55, eo55⟩ := Kd.S_slice HO_5.out
         subst eo55
         have p590 : 0 ≤ (x10_3 : Int) := zA11
         have q590 : x10_3 < (t576.length : Int) := zA11
         obtain ⟨ad590, A590_0, c590_0, e590, hx590_0, hl590_0, hi590_0⟩ := at_L7 (Kd.S_reads' HO_5.out).2.2 x10_3 p590 q590
         cases e590
         obtain ⟨ce590, hce590, hMe590, hcc590⟩ := Kd.S_get HO_5.out [] x10_3 p590 (by first | exact q590 | exact zA11 | (have e_ := (Kd.S_reads' HO_5.out).1; omega))
         obtain ⟨ve590_0, rfl, ge590_0⟩ := hMe590
         have hv590_0 := hcc590 0 _ rfl
         rw [Nat.add_zero, show ((Kd.slice 34 k34)).sz = 1 from rfl, Nat.mul_one] at hv590_0
         replace hv590_0 := Option.some.inj (hv590_0.symm.trans hx590_0)
         rw [hv590_0] at ge590_0
         have HL590_0 := Aside0.mk (show Kd.R k34 34 _ _ _ _ (rd_L7 t576 x10_3) from ge590_0)
         clear hv590_0 ge590_0 hcc590 hce590
         have HR590_0 := Aside0.mk hi590_0
         have HC590_0 := Aside0.mk hl590_0
         clear hi590_0 hl590_0
         replace p590 := eq_true p590
         replace q590 := eq_true q590
         go_wp2
         repeat (go_quiet (fail); try go_wp2)
         go_ret
         exact ⟨zE11, zB11_0⟩
        rw [if_pos c51] at H
        have c51b0 : ((rd x6_2 x10_3) == ((rd_L7 t576 x10_3).length : Int)) = true := beq_iff_eq.mpr c51
        have c51b1 : ((rd x6_2 x10_3) != ((rd_L7 t576 x10_3).length : Int)) = false := bne_eq_false_iff_eq.mpr c51
        clear c51
        have H' := Aside0.mk H
        clear H
        obtain ⟨Ao52, co52, eo52⟩ := Kd.R_slice HO_6.out
        subst eo52
        have p589 : 0 ≤ (x10_3 : Int) := zA11
        have q589 : x10_3 < (x6_2.length : Int) := zA11
        obtain ⟨ad589, e589, hx589_0⟩ := Kd.at_int (Kd.R_reads' HO_6.out).2.2 x10_3 p589 q589
        cases e589
        replace p589 := eq_true p589
        replace q589 := eq_true q589
        obtain ⟨Ao53, co53, eo53⟩ := Kd.S_slice HO_5.out
        subst eo53
        have p590 : 0 ≤ (x10_3 : Int) := zA11
        have q590 : x10_3 < (t576.length : Int) := zA11
        obtain ⟨ad590, A590_0, c590_0, e590, hx590_0, hl590_0, hi590_0⟩ := at_L7 (Kd.S_reads' HO_5.out).2.2 x10_3 p590 q590
        cases e590
        obtain ⟨ce590, hce590, hMe590, hcc590⟩ := Kd.S_get HO_5.out [] x10_3 p590 (by first | exact q590 | exact zA11 | (have e_ := (Kd.S_reads' HO_5.out).1; omega))
        obtain ⟨ve590_0, rfl, ge590_0⟩ := hMe590
        have hv590_0 := hcc590 0 _ rfl
        rw [Nat.add_zero, show ((Kd.slice 34 k34)).sz = 1 from rfl, Nat.mul_one] at hv590_0
        replace hv590_0 := Option.some.inj (hv590_0.symm.trans hx590_0)
        rw [hv590_0] at ge590_0
        have HL590_0 := Aside0.mk (show Kd.R k34 34 _ _ _ _ (rd_L7 t576 x10_3) from ge590_0)
        clear hv590_0 ge590_0 hcc590 hce590
        have HR590_0 := Aside0.mk hi590_0
        have HC590_0 := Aside0.mk hl590_0
        clear hi590_0 hl590_0
        replace p590 := eq_true p590
        replace q590 := eq_true q590
        go_wp2
        repeat (go_quiet (fail); try go_wp2)
        go_roundg k3
        case measure => have := HJ5.out; have := HK2.out; have := HK3.out; omega
        case rel => exact ⟨(wrap64 (x10_3 + 1)), (by first | rfl | (simp; done) | (simp [*]; done)), H', ⟨by have := HJ5.out; have := HK2.out; have := HK3.out; omega⟩, ⟨zS11 HO_5.out⟩, ⟨zR11 HO_6.out⟩, ⟨zB11_0⟩⟩
     rw [if_pos c17] at H
     have c17b0 : decide (x7_2 < (t573.length : Int)) = true := decide_eq_true c17
     clear c17
     by_cases c18 : 0 ≤ x7_2
     rotate_left
     ·rw [if_neg c18] at H
      exact absurd H (by simp)
     rw [if_pos c18] at H
     have c18b0 : decide (0 ≤ x7_2) = true := decide_eq_true c18
     clear c18
     have HC19 := Aside0.mk H
     clear H
     have p582 : 0 ≤ (x7_2 : Int) := zA11
     have q582 : x7_2 < (t573.length : Int) := zA11
     obtain ⟨ad582, e582, hx582_0, hx582_1, hx582_2, hx582_3, hx582_4⟩ := at_T31 (Kd.R_reads' HO_4.out).2.2 x7_2 p582 q582
     cases e582
     replace p582 := eq_true p582
     replace q582 := eq_true q582
     go_upto_region 12 with (first | ((with_reducible refine gate_dst (N := 8) rfl ?_); refine box_event ?hg (N := 8) ?hd (cs := #[.int .i64 0, .int .i64 0, .int .i64 0, .int .i64 0, .int .i64 0]) (t := 31) ?hr ?_; (case hd => rfl); (case hg => rfl); (case hr => first | (go_simp; done) | (go_simp; rfl)); intro gb583 hg w20 hbox hb; have n0_ := Aside0.mk (Kd.R_below (Kd.R_elderB (zR11 HO_4.out) gb583 (Nat.le_of_eq hg.symm)) hb); have n1_ := Aside0.mk (Kd.S_below (zS11 HO_5.out) hb); have n2_ := Aside0.mk (Kd.R_below (zR11 HO_6.out) hb); have n3_ := Aside0.mk (below_step (zB11_0) hb); have n4_ := Aside0.mk (hbox); have n5_ := Aside0.mk ((by rw [hg]; exact (below_size (zB11_0)) : w.heap.size ≤ gb583)); have n6_ := Aside0.mk ((by rw [hg]; exact (below_size (zB11_0)) : w.heap.size ≤ gb583)); clear HO_4; clear HO_5; clear HO_6; clear HB; have HO_4 := n0_; have HO_5 := n1_; have HO_6 := n2_; have HB := n3_; have BK583 := n4_; have GW583 := n5_; have GE583 := n6_; clear n0_ n1_ n2_ n3_ n4_ n5_ n6_; clear hb hbox hg; obtain ⟨hcz21_0, hcz21_1, hcz21_2, hcz21_3, hcz21_4, hfz21_0, hfz21_1, hfz21_2, hfz21_3, hfz21_4⟩ := zc11_5 (w := w20) BK583.out))
     repeat (go_quiet (first | ((with_reducible refine gate_dst (N := 8) rfl ?_); refine box_event ?hg (N := 8) ?hd (cs := #[.int .i64 0, .int .i64 0, .int .i64 0, .int .i64 0, .int .i64 0]) (t := 31) ?hr ?_; (case hd => rfl); (case hg => rfl); (case hr => first | (go_simp; done) | (go_simp; rfl)); intro gb583 hg w20 hbox hb; have n0_ := Aside0.mk (Kd.R_below (Kd.R_elderB (zR11 HO_4.out) gb583 (Nat.le_of_eq hg.symm)) hb); have n1_ := Aside0.mk (Kd.S_below (zS11 HO_5.out) hb); have n2_ := Aside0.mk (Kd.R_below (zR11 HO_6.out) hb); have n3_ := Aside0.mk (below_step (zB11_0) hb); have n4_ := Aside0.mk (hbox); have n5_ := Aside0.mk ((by rw [hg]; exact (below_size (zB11_0)) : w.heap.size ≤ gb583)); have n6_ := Aside0.mk ((by rw [hg]; exact (below_size (zB11_0)) : w.heap.size ≤ gb583)); clear HO_4; clear HO_5; clear HO_6; clear HB; have HO_4 := n0_; have HO_5 := n1_; have HO_6 := n2_; have HB := n3_; have BK583 := n4_; have GW583 := n5_; have GE583 := n6_; clear n0_ n1_ n2_ n3_ n4_ n5_ n6_; clear hb hbox hg; obtain ⟨hcz21_0, hcz21_1, hcz21_2, hcz21_3, hcz21_4, hfz21_0, hfz21_1, hfz21_2, hfz21_3, hfz21_4⟩ := zc11_5 (w := w20) BK583.out)); go_upto_region 12 with (first | ((with_reducible refine gate_dst (N := 8) rfl ?_); refine box_event ?hg (N := 8) ?hd (cs := #[.int .i64 0, .int .i64 0, .int .i64 0, .int .i64 0, .int .i64 0]) (t := 31) ?hr ?_; (case hd => rfl); (case hg => rfl); (case hr => first | (go_simp; done) | (go_simp; rfl)); intro gb583 hg w20 hbox hb; have n0_ := Aside0.mk (Kd.R_below (Kd.R_elderB (zR11 HO_4.out) gb583 (Nat.le_of_eq hg.symm)) hb); have n1_ := Aside0.mk (Kd.S_below (zS11 HO_5.out) hb); have n2_ := Aside0.mk (Kd.R_below (zR11 HO_6.out) hb); have n3_ := Aside0.mk (below_step (zB11_0) hb); have n4_ := Aside0.mk (hbox); have n5_ := Aside0.mk ((by rw [hg]; exact (below_size (zB11_0)) : w.heap.size ≤ gb583)); have n6_ := Aside0.mk ((by rw [hg]; exact (below_size (zB11_0)) : w.heap.size ≤ gb583)); clear HO_4; clear HO_5; clear HO_6; clear HB; have HO_4 := n0_; have HO_5 := n1_; have HO_6 := n2_; have HB := n3_; have BK583 := n4_; have GW583 := n5_; have GE583 := n6_; clear n0_ n1_ n2_ n3_ n4_ n5_ n6_; clear hb hbox hg; obtain ⟨hcz21_0, hcz21_1, hcz21_2, hcz21_3, hcz21_4, hfz21_0, hfz21_1, hfz21_2, hfz21_3, hfz21_4⟩ := zc11_5 (w := w20) BK583.out)))
     (try simp only [Act.put, List.setIfInBounds_toArray, List.set_cons_zero, List.set_cons_succ])
     go_cut [55] (fun v55 wc => ∃ (kq : Nat) (x55_18 : Bool), v55 = .bool x55_18 ∧ Aside0 (laws_FnByHart.j2 kq t572 t573 t576 x6_2 x7_2 x55_18 ((rd_T31 t573 x7_2).f0) ((rd_T31 t573 x7_2).f1) ((rd_T31 t573 x7_2).f2) ((rd_T31 t573 x7_2).f3) ((rd_T31 t573 x7_2).f4) = some r) ∧ Aside0 (kq ≤ k2) ∧ Aside0 (Kd.R k31 31 wc w.heap.size (fun k_ => k_ ≠ gb583) (.slice (some ad582) t573.length co8) t573) ∧ Aside0 (Kd.S (Kd.slice 34 k34) 32 wc w.heap.size (fun _ => True) v577 t576) ∧ Aside0 (Kd.R (Kd.int .i64) 3 wc w.heap.size (fun _ => True) v580 x6_2) ∧ Aside0 (wc.heap[gb583]? = some (.cells #[.int .i64 ((rd_T31 t573 x7_2).f0), .int .i64 ((rd_T31 t573 x7_2).f1), .int .i64 ((rd_T31 t573 x7_2).f2), .int .i64 ((rd_T31 t573 x7_2).f3), .int .i64 ((rd_T31 t573 x7_2).f4)] 31 (0, 0))) ∧ Aside0 (Below w.heap.size w wc))
     case first =>
      have H := HC19.out
      clear HC19
      by_cases c22 : ((rd_T31 t573 x7_2).f2) < 0
      ·rw [if_pos c22] at H
       have c22b0 : decide (((rd_T31 t573 x7_2).f2) < 0) = true := decide_eq_true c22
       clear c22
       (first | rw [c22b0] | (simp only [i64_w, i32_w]; rw [c22b0]) | skip)
       have H' := Aside0.mk H
       clear H
       obtain ⟨hcz23_0, hcz23_1, hcz23_2, hcz23_3, hcz23_4, hfz23_0, hfz23_1, hfz23_2, hfz23_3, hfz23_4⟩ := zc11_5 (w := w20) BK583.out
       go_wp2
       repeat (go_quiet (fail); try go_wp2)
       go_meet
       case rel => exact ⟨_, (true), (by first | rfl | (simp; done) | (simp [*]; done)), H', ⟨by have := HJ5.out; have := HK2.out; first | omega | exact Nat.le_refl _⟩, ⟨by (with_reducible repeat (first | apply Kd.R_alloc | apply Kd.R_drewN | apply Kd.R_drew)); exact Kd.R_mono (Kd.R_far (p := ⟨gb583, 4, none⟩) (Kd.R_far (p := ⟨gb583, 3, none⟩) (Kd.R_far (p := ⟨gb583, 2, none⟩) (Kd.R_far (p := ⟨gb583, 1, none⟩) (Kd.R_far (p := ⟨gb583, 0, none⟩) (Kd.R_mono HO_4.out (fun k_ hk => (⟨hk, hk.2⟩ : _ ∧ k_ ≠ gb583))) (fun _ hk => hk.2) (.int .i64 ((rd_T31 t573 x7_2).f0))) (fun _ hk => hk.2) (.int .i64 ((rd_T31 t573 x7_2).f1))) (fun _ hk => hk.2) (.int .i64 ((rd_T31 t573 x7_2).f2))) (fun _ hk => hk.2) (.int .i64 ((rd_T31 t573 x7_2).f3))) (fun _ hk => hk.2) (.int .i64 ((rd_T31 t573 x7_2).f4))) (fun _ hk => hk.1.2)⟩, ⟨by (with_reducible repeat (first | apply Kd.S_alloc | apply Kd.S_drewN | apply Kd.S_drew)); exact Kd.S_mono (Kd.S_far (p := ⟨gb583, 4, none⟩) (Kd.S_far (p := ⟨gb583, 3, none⟩) (Kd.S_far (p := ⟨gb583, 2, none⟩) (Kd.S_far (p := ⟨gb583, 1, none⟩) (Kd.S_far (p := ⟨gb583, 0, none⟩) (Kd.S_types HO_5.out BK583.out (by decide)) (fun _ hk => hk.2) (.int .i64 ((rd_T31 t573 x7_2).f0))) (fun _ hk => hk.2) (.int .i64 ((rd_T31 t573 x7_2).f1))) (fun _ hk => hk.2) (.int .i64 ((rd_T31 t573 x7_2).f2))) (fun _ hk => hk.2) (.int .i64 ((rd_T31 t573 x7_2).f3))) (fun _ hk => hk.2) (.int .i64 ((rd_T31 t573 x7_2).f4))) (fun _ hk => trivial)⟩, ⟨by (with_reducible repeat (first | apply Kd.R_alloc | apply Kd.R_drewN | apply Kd.R_drew)); exact Kd.R_mono (Kd.R_far (p := ⟨gb583, 4, none⟩) (Kd.R_far (p := ⟨gb583, 3, none⟩) (Kd.R_far (p := ⟨gb583, 2, none⟩) (Kd.R_far (p := ⟨gb583, 1, none⟩) (Kd.R_far (p := ⟨gb583, 0, none⟩) (Kd.R_types HO_6.out BK583.out (by decide)) (fun _ hk => hk.2) (.int .i64 ((rd_T31 t573 x7_2).f0))) (fun _ hk => hk.2) (.int .i64 ((rd_T31 t573 x7_2).f1))) (fun _ hk => hk.2) (.int .i64 ((rd_T31 t573 x7_2).f2))) (fun _ hk => hk.2) (.int .i64 ((rd_T31 t573 x7_2).f3))) (fun _ hk => hk.2) (.int .i64 ((rd_T31 t573 x7_2).f4))) (fun _ hk => trivial)⟩, ⟨by refine zP11 ?_; refine blk_put (cs := #[.int .i64 ((rd_T31 t573 x7_2).f0), .int .i64 ((rd_T31 t573 x7_2).f1), .int .i64 ((rd_T31 t573 x7_2).f2), .int .i64 ((rd_T31 t573 x7_2).f3), .int .i64 0]) ?_ 4 _ rfl; refine zP11 ?_; refine blk_put (cs := #[.int .i64 ((rd_T31 t573 x7_2).f0), .int .i64 ((rd_T31 t573 x7_2).f1), .int .i64 ((rd_T31 t573 x7_2).f2), .int .i64 0, .int .i64 0]) ?_ 3 _ rfl; refine zP11 ?_; refine blk_put (cs := #[.int .i64 ((rd_T31 t573 x7_2).f0), .int .i64 ((rd_T31 t573 x7_2).f1), .int .i64 0, .int .i64 0, .int .i64 0]) ?_ 2 _ rfl; refine zP11 ?_; refine blk_put (cs := #[.int .i64 ((rd_T31 t573 x7_2).f0), .int .i64 0, .int .i64 0, .int .i64 0, .int .i64 0]) ?_ 1 _ rfl; refine zP11 ?_; refine blk_put (cs := #[.int .i64 0, .int .i64 0, .int .i64 0, .int .i64 0, .int .i64 0]) ?_ 0 _ rfl; refine zP11 ?_; exact BK583.out⟩, ⟨zB11_1⟩⟩
      rw [if_neg c22] at H
      have c22b0 : decide (((rd_T31 t573 x7_2).f2) < 0) = false := decide_eq_false c22
      clear c22
      (first | rw [c22b0] | (simp only [i64_w, i32_w]; rw [c22b0]) | skip)
      by_cases c24 : ((rd_T31 t573 x7_2).f0) < 0
      ·rw [if_pos c24] at H
       have c24b0 : decide (((rd_T31 t573 x7_2).f0) < 0) = true := decide_eq_true c24
       clear c24
       have H' := Aside0.mk H
       clear H
       obtain ⟨hcz25_0, hcz25_1, hcz25_2, hcz25_3, hcz25_4, hfz25_0, hfz25_1, hfz25_2, hfz25_3, hfz25_4⟩ := zc11_5 (w := w20) BK583.out
       go_wp2
       repeat (go_quiet (fail); try go_wp2)
       go_meet
       case rel => exact ⟨_, (true), (by first | rfl | (simp; done) | (simp [*]; done)), H', ⟨by have := HJ5.out; have := HK2.out; first | omega | exact Nat.le_refl _⟩, ⟨by (with_reducible repeat (first | apply Kd.R_alloc | apply Kd.R_drewN | apply Kd.R_drew)); exact Kd.R_mono (Kd.R_far (p := ⟨gb583, 4, none⟩) (Kd.R_far (p := ⟨gb583, 3, none⟩) (Kd.R_far (p := ⟨gb583, 2, none⟩) (Kd.R_far (p := ⟨gb583, 1, none⟩) (Kd.R_far (p := ⟨gb583, 0, none⟩) (Kd.R_mono HO_4.out (fun k_ hk => (⟨hk, hk.2⟩ : _ ∧ k_ ≠ gb583))) (fun _ hk => hk.2) (.int .i64 ((rd_T31 t573 x7_2).f0))) (fun _ hk => hk.2) (.int .i64 ((rd_T31 t573 x7_2).f1))) (fun _ hk => hk.2) (.int .i64 ((rd_T31 t573 x7_2).f2))) (fun _ hk => hk.2) (.int .i64 ((rd_T31 t573 x7_2).f3))) (fun _ hk => hk.2) (.int .i64 ((rd_T31 t573 x7_2).f4))) (fun _ hk => hk.1.2)⟩, ⟨by (with_reducible repeat (first | apply Kd.S_alloc | apply Kd.S_drewN | apply Kd.S_drew)); exact Kd.S_mono (Kd.S_far (p := ⟨gb583, 4, none⟩) (Kd.S_far (p := ⟨gb583, 3, none⟩) (Kd.S_far (p := ⟨gb583, 2, none⟩) (Kd.S_far (p := ⟨gb583, 1, none⟩) (Kd.S_far (p := ⟨gb583, 0, none⟩) (Kd.S_types HO_5.out BK583.out (by decide)) (fun _ hk => hk.2) (.int .i64 ((rd_T31 t573 x7_2).f0))) (fun _ hk => hk.2) (.int .i64 ((rd_T31 t573 x7_2).f1))) (fun _ hk => hk.2) (.int .i64 ((rd_T31 t573 x7_2).f2))) (fun _ hk => hk.2) (.int .i64 ((rd_T31 t573 x7_2).f3))) (fun _ hk => hk.2) (.int .i64 ((rd_T31 t573 x7_2).f4))) (fun _ hk => trivial)⟩, ⟨by (with_reducible repeat (first | apply Kd.R_alloc | apply Kd.R_drewN | apply Kd.R_drew)); exact Kd.R_mono (Kd.R_far (p := ⟨gb583, 4, none⟩) (Kd.R_far (p := ⟨gb583, 3, none⟩) (Kd.R_far (p := ⟨gb583, 2, none⟩) (Kd.R_far (p := ⟨gb583, 1, none⟩) (Kd.R_far (p := ⟨gb583, 0, none⟩) (Kd.R_types HO_6.out BK583.out (by decide)) (fun _ hk => hk.2) (.int .i64 ((rd_T31 t573 x7_2).f0))) (fun _ hk => hk.2) (.int .i64 ((rd_T31 t573 x7_2).f1))) (fun _ hk => hk.2) (.int .i64 ((rd_T31 t573 x7_2).f2))) (fun _ hk => hk.2) (.int .i64 ((rd_T31 t573 x7_2).f3))) (fun _ hk => hk.2) (.int .i64 ((rd_T31 t573 x7_2).f4))) (fun _ hk => trivial)⟩, ⟨by refine zP11 ?_; refine blk_put (cs := #[.int .i64 ((rd_T31 t573 x7_2).f0), .int .i64 ((rd_T31 t573 x7_2).f1), .int .i64 ((rd_T31 t573 x7_2).f2), .int .i64 ((rd_T31 t573 x7_2).f3), .int .i64 0]) ?_ 4 _ rfl; refine zP11 ?_; refine blk_put (cs := #[.int .i64 ((rd_T31 t573 x7_2).f0), .int .i64 ((rd_T31 t573 x7_2).f1), .int .i64 ((rd_T31 t573 x7_2).f2), .int .i64 0, .int .i64 0]) ?_ 3 _ rfl; refine zP11 ?_; refine blk_put (cs := #[.int .i64 ((rd_T31 t573 x7_2).f0), .int .i64 ((rd_T31 t573 x7_2).f1), .int .i64 0, .int .i64 0, .int .i64 0]) ?_ 2 _ rfl; refine zP11 ?_; refine blk_put (cs := #[.int .i64 ((rd_T31 t573 x7_2).f0), .int .i64 0, .int .i64 0, .int .i64 0, .int .i64 0]) ?_ 1 _ rfl; refine zP11 ?_; refine blk_put (cs := #[.int .i64 0, .int .i64 0, .int .i64 0, .int .i64 0, .int .i64 0]) ?_ 0 _ rfl; refine zP11 ?_; exact BK583.out⟩, ⟨zB11_1⟩⟩
      rw [if_neg c24] at H
      have c24b0 : decide (((rd_T31 t573 x7_2).f0) < 0) = false := decide_eq_false c24
      clear c24
      have H' := Aside0.mk H
      clear H
      obtain ⟨hcz26_0, hcz26_1, hcz26_2, hcz26_3, hcz26_4, hfz26_0, hfz26_1, hfz26_2, hfz26_3, hfz26_4⟩ := zc11_5 (w := w20) BK583.out
      go_wp2
      repeat (go_quiet (fail); try go_wp2)
      go_meet
      case rel => exact ⟨_, (decide (((rd_T31 t573 x7_2).f0) ≥ t572)), (by first | rfl | (simp; done) | (simp [*]; done)), H', ⟨by have := HJ5.out; have := HK2.out; first | omega | exact Nat.le_refl _⟩, ⟨by (with_reducible repeat (first | apply Kd.R_alloc | apply Kd.R_drewN | apply Kd.R_drew)); exact Kd.R_mono (Kd.R_far (p := ⟨gb583, 4, none⟩) (Kd.R_far (p := ⟨gb583, 3, none⟩) (Kd.R_far (p := ⟨gb583, 2, none⟩) (Kd.R_far (p := ⟨gb583, 1, none⟩) (Kd.R_far (p := ⟨gb583, 0, none⟩) (Kd.R_mono HO_4.out (fun k_ hk => (⟨hk, hk.2⟩ : _ ∧ k_ ≠ gb583))) (fun _ hk => hk.2) (.int .i64 ((rd_T31 t573 x7_2).f0))) (fun _ hk => hk.2) (.int .i64 ((rd_T31 t573 x7_2).f1))) (fun _ hk => hk.2) (.int .i64 ((rd_T31 t573 x7_2).f2))) (fun _ hk => hk.2) (.int .i64 ((rd_T31 t573 x7_2).f3))) (fun _ hk => hk.2) (.int .i64 ((rd_T31 t573 x7_2).f4))) (fun _ hk => hk.1.2)⟩, ⟨by (with_reducible repeat (first | apply Kd.S_alloc | apply Kd.S_drewN | apply Kd.S_drew)); exact Kd.S_mono (Kd.S_far (p := ⟨gb583, 4, none⟩) (Kd.S_far (p := ⟨gb583, 3, none⟩) (Kd.S_far (p := ⟨gb583, 2, none⟩) (Kd.S_far (p := ⟨gb583, 1, none⟩) (Kd.S_far (p := ⟨gb583, 0, none⟩) (Kd.S_types HO_5.out BK583.out (by decide)) (fun _ hk => hk.2) (.int .i64 ((rd_T31 t573 x7_2).f0))) (fun _ hk => hk.2) (.int .i64 ((rd_T31 t573 x7_2).f1))) (fun _ hk => hk.2) (.int .i64 ((rd_T31 t573 x7_2).f2))) (fun _ hk => hk.2) (.int .i64 ((rd_T31 t573 x7_2).f3))) (fun _ hk => hk.2) (.int .i64 ((rd_T31 t573 x7_2).f4))) (fun _ hk => trivial)⟩, ⟨by (with_reducible repeat (first | apply Kd.R_alloc | apply Kd.R_drewN | apply Kd.R_drew)); exact Kd.R_mono (Kd.R_far (p := ⟨gb583, 4, none⟩) (Kd.R_far (p := ⟨gb583, 3, none⟩) (Kd.R_far (p := ⟨gb583, 2, none⟩) (Kd.R_far (p := ⟨gb583, 1, none⟩) (Kd.R_far (p := ⟨gb583, 0, none⟩) (Kd.R_types HO_6.out BK583.out (by decide)) (fun _ hk => hk.2) (.int .i64 ((rd_T31 t573 x7_2).f0))) (fun _ hk => hk.2) (.int .i64 ((rd_T31 t573 x7_2).f1))) (fun _ hk => hk.2) (.int .i64 ((rd_T31 t573 x7_2).f2))) (fun _ hk => hk.2) (.int .i64 ((rd_T31 t573 x7_2).f3))) (fun _ hk => hk.2) (.int .i64 ((rd_T31 t573 x7_2).f4))) (fun _ hk => trivial)⟩, ⟨by refine zP11 ?_; refine blk_put (cs := #[.int .i64 ((rd_T31 t573 x7_2).f0), .int .i64 ((rd_T31 t573 x7_2).f1), .int .i64 ((rd_T31 t573 x7_2).f2), .int .i64 ((rd_T31 t573 x7_2).f3), .int .i64 0]) ?_ 4 _ rfl; refine zP11 ?_; refine blk_put (cs := #[.int .i64 ((rd_T31 t573 x7_2).f0), .int .i64 ((rd_T31 t573 x7_2).f1), .int .i64 ((rd_T31 t573 x7_2).f2), .int .i64 0, .int .i64 0]) ?_ 3 _ rfl; refine zP11 ?_; refine blk_put (cs := #[.int .i64 ((rd_T31 t573 x7_2).f0), .int .i64 ((rd_T31 t573 x7_2).f1), .int .i64 0, .int .i64 0, .int .i64 0]) ?_ 2 _ rfl; refine zP11 ?_; refine blk_put (cs := #[.int .i64 ((rd_T31 t573 x7_2).f0), .int .i64 0, .int .i64 0, .int .i64 0, .int .i64 0]) ?_ 1 _ rfl; refine zP11 ?_; refine blk_put (cs := #[.int .i64 0, .int .i64 0, .int .i64 0, .int .i64 0, .int .i64 0]) ?_ 0 _ rfl; refine zP11 ?_; exact BK583.out⟩, ⟨zB11_1⟩⟩
     case rest =>
      clear HC19
      try clear c1
      try clear c2
      try clear p2
      try clear c3
      try clear p5
      try clear q5
      try clear hx5
      try clear c10
      try clear c10b0
      try clear c11
      try clear c13
      try clear c13b0
      try clear c13b1
      try clear c14
      try clear c14b0
      try clear c14b1
      try clear c17
      try clear c17b0
      try clear c18
      try clear c18b0
      try clear c22
      try clear c22b0
      try clear c24
      try clear c24b0
      try clear hcz21_0
      try clear hcz21_1
      try clear hcz21_2
      try clear hcz21_3
      try clear hcz21_4
      try clear hcz23_0
      try clear hcz23_1
      try clear hcz23_2
      try clear hcz23_3
      try clear hcz23_4
      try clear hcz25_0
      try clear hcz25_1
      try clear hcz25_2
      try clear hcz25_3
      try clear hcz25_4
      try clear hcz26_0
      try clear hcz26_1
      try clear hcz26_2
      try clear hcz26_3
      try clear hcz26_4
      try clear hfz21_0
      try clear hfz21_1
      try clear hfz21_2
      try clear hfz21_3
      try clear hfz21_4
      try clear hfz23_0
      try clear hfz23_1
      try clear hfz23_2
      try clear hfz23_3
      try clear hfz23_4
      try clear hfz25_0
      try clear hfz25_1
      try clear hfz25_2
      try clear hfz25_3
      try clear hfz25_4
      try clear hfz26_0
      try clear hfz26_1
      try clear hfz26_2
      try clear hfz26_3
      try clear hfz26_4
      try clear hx582_0
      try clear hx582_1
      try clear hx582_2
      try clear hx582_3
      try clear hx582_4
      try clear p2
      try clear p582
      try clear q582
      obtain ⟨kq, x55_18, rfl, HA, HJ18, HO_4, HO_5, HO_6, BK583, HB⟩ := hcut
      cases kq with
      | zero => exact absurd HA.out (by simp [laws_FnByHart.j2])
      | succ kj18 =>
       have H := HA.out
       clear HA
       simp only [laws_FnByHart.j2] at H
       by_cases c27 : x55_18 = true
       ·subst c27
        have H1 : (laws_FnByHart.l0 kj18 t572 t573 t576 x6_2 (wrap64 (x7_2 + 1))) = some r := by rw [if_pos rfl] at H; exact H
        clear H
        have H := H1
        clear H1
        have H' := Aside0.mk H
        clear H
        go_wp2
        repeat (go_quiet (fail); try go_wp2)
        go_roundg kj18
        case measure => have := HJ5.out; have := HK2.out; have := HJ18.out; omega
        case rel => exact ⟨(x6_2), (wrap64 (x7_2 + 1)), (by first | rfl | (simp; done) | (simp [*]; done)), H', ⟨by have := HJ5.out; have := HK2.out; have := HJ18.out; omega⟩, ⟨by (with_reducible repeat (first | apply Kd.R_alloc | apply Kd.R_drewN | apply Kd.R_drew)); exact Kd.R_mono HO_4.out (fun _ hk => trivial)⟩, ⟨zS11 HO_5.out⟩, ⟨zR11 HO_6.out⟩, ⟨zB11_1⟩⟩
       replace c27 := Bool.eq_false_iff.mpr c27
       subst c27
       have H1 : (if 0 ≤ ((rd_T31 t573 x7_2).f0) then (if ((rd_T31 t573 x7_2).f0) < (x6_2.length : Int) then (if ((rd_T31 t573 x7_2).f0) < (t576.length : Int) then (if (rd x6_2 ((rd_T31 t573 x7_2).f0)) ≥ ((rd_L7 t576 ((rd_T31 t573 x7_2).f0)).length : Int) then (some false) else (if 0 ≤ (rd x6_2 ((rd_T31 t573 x7_2).f0)) then (if (rd x6_2 ((rd_T31 t573 x7_2).f0)) < ((rd_L7 t576 ((rd_T31 t573 x7_2).f0)).length : Int) then (if (!(((rd_T34 (rd_L7 t576 ((rd_T31 t573 x7_2).f0)) (rd x6_2 ((rd_T31 t573 x7_2).f0))).f0) == ((rd_T31 t573 x7_2).f2)) || (!(((rd_T34 (rd_L7 t576 ((rd_T31 t573 x7_2).f0)) (rd x6_2 ((rd_T31 t573 x7_2).f0))).f1) == ((rd_T31 t573 x7_2).f3)) || (!(((rd_T34 (rd_L7 t576 ((rd_T31 t573 x7_2).f0)) (rd x6_2 ((rd_T31 t573 x7_2).f0))).f2) == ((rd_T31 t573 x7_2).f4))))) = true then (some false) else (laws_FnByHart.l0 kj18 t572 t573 t576 (x6_2.set (((rd_T31 t573 x7_2).f0) : Int).toNat (wrap64 ((rd x6_2 ((rd_T31 t573 x7_2).f0)) + 1))) (wrap64 (x7_2 + 1)))) else (none)) else (none))) else (none)) else (none)) else (none)) = some r := by rw [if_neg (show ¬ (false = true) by decide)] at H; exact H
       clear H
       have H := H1
       clear H1
       by_cases c28 : 0 ≤ ((rd_T31 t573 x7_2).f0)
       rotate_left
       ·rw [if_neg c28] at H
        exact absurd H (by simp)
       rw [if_pos c28] at H
       have c28b0 : decide (0 ≤ ((rd_T31 t573 x7_2).f0)) = true := decide_eq_true c28
       clear c28
       by_cases c29 : ((rd_T31 t573 x7_2).f0) < (x6_2.length : Int)
       rotate_left
       ·rw [if_neg c29] at H
        exact absurd H (by simp)
       rw [if_pos c29] at H
       have c29b0 : decide (((rd_T31 t573 x7_2).f0) < (x6_2.length : Int)) = true := decide_eq_true c29
       clear c29
       by_cases c30 : ((rd_T31 t573 x7_2).f0) < (t576.length : Int)
       rotate_left
       ·rw [if_neg c30] at H
        exact absurd H (by simp)
       rw [if_pos c30] at H
       have c30b0 : decide (((rd_T31 t573 x7_2).f0) < (t576.length : Int)) = true := decide_eq_true c30
       clear c30
       by_cases c31 : (rd x6_2 ((rd_T31 t573 x7_2).f0)) ≥ ((rd_L7 t576 ((rd_T31 t573 x7_2).f0)).length : Int)
       ·rw [if_pos c31] at H
        have c31b0 : decide (((rd_L7 t576 ((rd_T31 t573 x7_2).f0)).length : Int) ≤ (rd x6_2 ((rd_T31 t573 x7_2).f0))) = true := decide_eq_true c31
        clear c31
        obtain rfl := Option.some.inj H
        obtain ⟨hcz32_0, hcz32_1, hcz32_2, hcz32_3, hcz32_4, hfz32_0, hfz32_1, hfz32_2, hfz32_3, hfz32_4⟩ := zc11_5 (w := wc) BK583.out
        obtain ⟨Ao33, co33, eo33⟩ := Kd.R_slice HO_6.out
        subst eo33
        have p584 : 0 ≤ (((rd_T31 t573 x7_2).f0) : Int) := zA11
        have q584 : ((rd_T31 t573 x7_2).f0) < (x6_2.length : Int) := zA11
        obtain ⟨ad584, e584, hx584_0⟩ := Kd.at_int (Kd.R_reads' HO_6.out).2.2 ((rd_T31 t573 x7_2).f0) p584 q584
        cases e584
        replace p584 := eq_true p584
        replace q584 := eq_true q584
        obtain ⟨Ao34, co34, eo34⟩ := Kd.S_slice HO_5.out
        subst eo34
        have p585 : 0 ≤ (((rd_T31 t573 x7_2).f0) : Int) := zA11
        have q585 : ((rd_T31 t573 x7_2).f0) < (t576.length : Int) := zA11
        obtain ⟨ad585, A585_0, c585_0, e585, hx585_0, hl585_0, hi585_0⟩ := at_L7 (Kd.S_reads' HO_5.out).2.2 ((rd_T31 t573 x7_2).f0) p585 q585
        cases e585
        obtain ⟨ce585, hce585, hMe585, hcc585⟩ := Kd.S_get HO_5.out [] ((rd_T31 t573 x7_2).f0) p585 (by first | exact q585 | exact zA11 | (have e_ := (Kd.S_reads' HO_5.out).1; omega))
        obtain ⟨ve585_0, rfl, ge585_0⟩ := hMe585
        have hv585_0 := hcc585 0 _ rfl
        rw [Nat.add_zero, show ((Kd.slice 34 k34)).sz = 1 from rfl, Nat.mul_one] at hv585_0
        replace hv585_0 := Option.some.inj (hv585_0.symm.trans hx585_0)
        rw [hv585_0] at ge585_0
        have HL585_0 := Aside0.mk (show Kd.R k34 34 _ _ _ _ (rd_L7 t576 ((rd_T31 t573 x7_2).f0)) from ge585_0)
        clear hv585_0 ge585_0 hcc585 hce585
        have HR585_0 := Aside0.mk hi585_0
        have HC585_0 := Aside0.mk hl585_0
        clear hi585_0 hl585_0
        replace p585 := eq_true p585
        replace q585 := eq_true q585
        go_wp2
        repeat (go_quiet (fail); try go_wp2)
        go_ret
        exact ⟨zE11, zB11_1⟩
       rw [if_neg c31] at H
       have c31b0 : decide (((rd_L7 t576 ((rd_T31 t573 x7_2).f0)).length : Int) ≤ (rd x6_2 ((rd_T31 t573 x7_2).f0))) = false := decide_eq_false c31
       clear c31
       by_cases c35 : 0 ≤ (rd x6_2 ((rd_T31 t573 x7_2).f0))
       rotate_left
       ·rw [if_neg c35] at H
        exact absurd H (by simp)
       rw [if_pos c35] at H
       have c35b0 : decide (0 ≤ (rd x6_2 ((rd_T31 t573 x7_2).f0))) = true := decide_eq_true c35
       clear c35
       by_cases c36 : (rd x6_2 ((rd_T31 t573 x7_2).f0)) < ((rd_L7 t576 ((rd_T31 t573 x7_2).f0)).length : Int)
       rotate_left
       ·rw [if_neg c36] at H
        exact absurd H (by simp)
       rw [if_pos c36] at H
       have c36b0 : decide ((rd x6_2 ((rd_T31 t573 x7_2).f0)) < ((rd_L7 t576 ((rd_T31 t573 x7_2).f0)).length : Int)) = true := decide_eq_true c36
       clear c36
       by_cases c37 : (!(((rd_T34 (rd_L7 t576 ((rd_T31 t573 x7_2).f0)) (rd x6_2 ((rd_T31 t573 x7_2).f0))).f0) == ((rd_T31 t573 x7_2).f2)) || (!(((rd_T34 (rd_L7 t576 ((rd_T31 t573 x7_2).f0)) (rd x6_2 ((rd_T31 t573 x7_2).f0))).f1) == ((rd_T31 t573 x7_2).f3)) || (!(((rd_T34 (rd_L7 t576 ((rd_T31 t573 x7_2).f0)) (rd x6_2 ((rd_T31 t573 x7_2).f0))).f2) == ((rd_T31 t573 x7_2).f4))))) = true
       ·rw [if_pos c37] at H
        have c37b0 : (!(((rd_T34 (rd_L7 t576 ((rd_T31 t573 x7_2).f0)) (rd x6_2 ((rd_T31 t573 x7_2).f0))).f0) == ((rd_T31 t573 x7_2).f2)) || (!(((rd_T34 (rd_L7 t576 ((rd_T31 t573 x7_2).f0)) (rd x6_2 ((rd_T31 t573 x7_2).f0))).f1) == ((rd_T31 t573 x7_2).f3)) || (!(((rd_T34 (rd_L7 t576 ((rd_T31 t573 x7_2).f0)) (rd x6_2 ((rd_T31 t573 x7_2).f0))).f2) == ((rd_T31 t573 x7_2).f4))))) = true := c37
        clear c37
        obtain rfl := Option.some.inj H
        obtain ⟨hcz38_0, hcz38_1, hcz38_2, hcz38_3, hcz38_4, hfz38_0, hfz38_1, hfz38_2, hfz38_3, hfz38_4⟩ := zc11_5 (w := wc) BK583.out
        obtain ⟨Ao39, co39, eo39⟩ := Kd.R_slice HO_6.out
        subst eo39
        have p584 : 0 ≤ (((rd_T31 t573 x7_2).f0) : Int) := zA11
        have q584 : ((rd_T31 t573 x7_2).f0) < (x6_2.length : Int) := zA11
        obtain ⟨ad584, e584, hx584_0⟩ := Kd.at_int (Kd.R_reads' HO_6.out).2.2 ((rd_T31 t573 x7_2).f0) p584 q584
        cases e584
        replace p584 := eq_true p584
        replace q584 := eq_true q584
        obtain ⟨Ao40, co40, eo40⟩ := Kd.S_slice HO_5.out
        subst eo40
        have p585 : 0 ≤ (((rd_T31 t573 x7_2).f0) : Int) := zA11
        have q585 : ((rd_T31 t573 x7_2).f0) < (t576.length : Int) := zA11
        obtain ⟨ad585, A585_0, c585_0, e585, hx585_0, hl585_0, hi585_0⟩ := at_L7 (Kd.S_reads' HO_5.out).2.2 ((rd_T31 t573 x7_2).f0) p585 q585
        cases e585
        obtain ⟨ce585, hce585, hMe585, hcc585⟩ := Kd.S_get HO_5.out [] ((rd_T31 t573 x7_2).f0) p585 (by first | exact q585 | exact zA11 | (have e_ := (Kd.S_reads' HO_5.out).1; omega))
        obtain ⟨ve585_0, rfl, ge585_0⟩ := hMe585
        have hv585_0 := hcc585 0 _ rfl
        rw [Nat.add_zero, show ((Kd.slice 34 k34)).sz = 1 from rfl, Nat.mul_one] at hv585_0
        replace hv585_0 := Option.some.inj (hv585_0.symm.trans hx585_0)
        rw [hv585_0] at ge585_0
        have HL585_0 := Aside0.mk (show Kd.R k34 34 _ _ _ _ (rd_L7 t576 ((rd_T31 t573 x7_2).f0)) from ge585_0)
        clear hv585_0 ge585_0 hcc585 hce585
        have HR585_0 := Aside0.mk hi585_0
        have HC585_0 := Aside0.mk hl585_0
        clear hi585_0 hl585_0
        replace p585 := eq_true p585
        replace q585 := eq_true q585
        have p586 : 0 ≤ (((rd_T31 t573 x7_2).f0) : Int) := zA11
        have q586 : ((rd_T31 t573 x7_2).f0) < (t576.length : Int) := zA11
        obtain ⟨ad586, A586_0, c586_0, e586, hx586_0, hl586_0, hi586_0⟩ := at_L7 (Kd.S_reads' HO_5.out).2.2 ((rd_T31 t573 x7_2).f0) p586 q586
        obtain rfl : ad585 = ad586 := (by injection e586)
        obtain ⟨ce586, hce586, hMe586, hcc586⟩ := Kd.S_get HO_5.out [] ((rd_T31 t573 x7_2).f0) p586 (by first | exact q586 | exact zA11 | (have e_ := (Kd.S_reads' HO_5.out).1; omega))
        obtain ⟨ve586_0, rfl, ge586_0⟩ := hMe586
        have hv586_0 := hcc586 0 _ rfl
        rw [Nat.add_zero, show ((Kd.slice 34 k34)).sz = 1 from rfl, Nat.mul_one] at hv586_0
        replace hv586_0 := Option.some.inj (hv586_0.symm.trans hx586_0)
        rw [hv586_0] at ge586_0
        have HL586_0 := Aside0.mk (show Kd.R k34 34 _ _ _ _ (rd_L7 t576 ((rd_T31 t573 x7_2).f0)) from ge586_0)
        clear hv586_0 ge586_0 hcc586 hce586
        have HR586_0 := Aside0.mk hi586_0
        have HC586_0 := Aside0.mk hl586_0
        clear hi586_0 hl586_0
        replace p586 := eq_true p586
        replace q586 := eq_true q586
        have ea_ := Option.some.inj (hx585_0.symm.trans hx586_0)
        injection ea_ with ea_ en_ ec_
        subst ea_
        subst ec_
        clear en_
        have p587 : 0 ≤ ((rd x6_2 ((rd_T31 t573 x7_2).f0)) : Int) := zA11
        have q587 : (rd x6_2 ((rd_T31 t573 x7_2).f0)) < ((rd_L7 t576 ((rd_T31 t573 x7_2).f0)).length : Int) := zA11
        obtain ⟨ad587, e587, hx587_0, hx587_1, hx587_2⟩ := at_T34 (by repeat (first | (with_reducible exact HR586_0.out) | (with_reducible refine Kd.C_alloc ?_ _) | (with_reducible refine Kd.C_drewN ?_ _) | (with_reducible refine Kd.C_drew ?_) | exact HR586_0.out)) (rd x6_2 ((rd_T31 t573 x7_2).f0)) p587 q587
        cases e587
        replace p587 := eq_true p587
        replace q587 := eq_true q587
        go_wp2
        repeat (go_quiet (fail); try go_wp2)
        go_ret
        exact ⟨zE11, zB11_1⟩
       rw [if_neg c37] at H
       have c37b0 : (!(((rd_T34 (rd_L7 t576 ((rd_T31 t573 x7_2).f0)) (rd x6_2 ((rd_T31 t573 x7_2).f0))).f0) == ((rd_T31 t573 x7_2).f2)) || (!(((rd_T34 (rd_L7 t576 ((rd_T31 t573 x7_2).f0)) (rd x6_2 ((rd_T31 t573 x7_2).f0))).f1) == ((rd_T31 t573 x7_2).f3)) || (!(((rd_T34 (rd_L7 t576 ((rd_T31 t573 x7_2).f0)) (rd x6_2 ((rd_T31 t573 x7_2).f0))).f2) == ((rd_T31 t573 x7_2).f4))))) = false := by simpa using c37
       clear c37
       obtain ⟨y588, hy588⟩ : ∃ y_ : List Int, y_ = (x6_2.set (((rd_T31 t573 x7_2).f0) : Int).toNat (wrap64 ((rd x6_2 ((rd_T31 t573 x7_2).f0)) + 1))) := ⟨_, rfl⟩
       replace H : (laws_FnByHart.l0 kj18 t572 t573 t576 y588 (wrap64 (x7_2 + 1))) = some r := by first | (rw [hy588]; with_reducible exact H) | (have H2_ := (Option.bind_some _ _).symm.trans H; rw [hy588]; with_reducible exact H2_) | (have H2_ := (Option.bind_some _ _).symm.trans H; with_reducible exact H2_) | with_reducible exact H | (rw [hy588]; exact H) | exact H
       have Ny588 := Aside0.mk hy588
       clear hy588
       have H' := Aside0.mk H
       clear H
       obtain ⟨hcz42_0, hcz42_1, hcz42_2, hcz42_3, hcz42_4, hfz42_0, hfz42_1, hfz42_2, hfz42_3, hfz42_4⟩ := zc11_5 (w := wc) BK583.out
       obtain ⟨Ao43, co43, eo43⟩ := Kd.R_slice HO_6.out
       subst eo43
       have p584 : 0 ≤ (((rd_T31 t573 x7_2).f0) : Int) := zA11
       have q584 : ((rd_T31 t573 x7_2).f0) < (x6_2.length : Int) := zA11
       obtain ⟨ad584, e584, hx584_0⟩ := Kd.at_int (Kd.R_reads' HO_6.out).2.2 ((rd_T31 t573 x7_2).f0) p584 q584
       cases e584
       replace p584 := eq_true p584
       replace q584 := eq_true q584
       obtain ⟨Ao44, co44, eo44⟩ := Kd.S_slice HO_5.out
       subst eo44
       have p585 : 0 ≤ (((rd_T31 t573 x7_2).f0) : Int) := zA11
       have q585 : ((rd_T31 t573 x7_2).f0) < (t576.length : Int) := zA11
       obtain ⟨ad585, A585_0, c585_0, e585, hx585_0, hl585_0, hi585_0⟩ := at_L7 (Kd.S_reads' HO_5.out).2.2 ((rd_T31 t573 x7_2).f0) p585 q585
       cases e585
       obtain ⟨ce585, hce585, hMe585, hcc585⟩ := Kd.S_get HO_5.out [] ((rd_T31 t573 x7_2).f0) p585 (by first | exact q585 | exact zA11 | (have e_ := (Kd.S_reads' HO_5.out).1; omega))
       obtain ⟨ve585_0, rfl, ge585_0⟩ := hMe585
       have hv585_0 := hcc585 0 _ rfl
       rw [Nat.add_zero, show ((Kd.slice 34 k34)).sz = 1 from rfl, Nat.mul_one] at hv585_0
       replace hv585_0 := Option.some.inj (hv585_0.symm.trans hx585_0)
       rw [hv585_0] at ge585_0
       have HL585_0 := Aside0.mk (show Kd.R k34 34 _ _ _ _ (rd_L7 t576 ((rd_T31 t573 x7_2).f0)) from ge585_0)
       clear hv585_0 ge585_0 hcc585 hce585
       have HR585_0 := Aside0.mk hi585_0
       have HC585_0 := Aside0.mk hl585_0
       clear hi585_0 hl585_0
       replace p585 := eq_true p585
       replace q585 := eq_true q585
       have p586 : 0 ≤ (((rd_T31 t573 x7_2).f0) : Int) := zA11
       have q586 : ((rd_T31 t573 x7_2).f0) < (t576.length : Int) := zA11
       obtain ⟨ad586, A586_0, c586_0, e586, hx586_0, hl586_0, hi586_0⟩ := at_L7 (Kd.S_reads' HO_5.out).2.2 ((rd_T31 t573 x7_2).f0) p586 q586
       obtain rfl : ad585 = ad586 := (by injection e586)
       obtain ⟨ce586, hce586, hMe586, hcc586⟩ := Kd.S_get HO_5.out [] ((rd_T31 t573 x7_2).f0) p586 (by first | exact q586 | exact zA11 | (have e_ := (Kd.S_reads' HO_5.out).1; omega))
       obtain ⟨ve586_0, rfl, ge586_0⟩ := hMe586
       have hv586_0 := hcc586 0 _ rfl
       rw [Nat.add_zero, show ((Kd.slice 34 k34)).sz = 1 from rfl, Nat.mul_one] at hv586_0
       replace hv586_0 := Option.some.inj (hv586_0.symm.trans hx586_0)
       rw [hv586_0] at ge586_0
       have HL586_0 := Aside0.mk (show Kd.R k34 34 _ _ _ _ (rd_L7 t576 ((rd_T31 t573 x7_2).f0)) from ge586_0)
       clear hv586_0 ge586_0 hcc586 hce586
       have HR586_0 := Aside0.mk hi586_0
       have HC586_0 := Aside0.mk hl586_0
       clear hi586_0 hl586_0
       replace p586 := eq_true p586
       replace q586 := eq_true q586
       have ea_ := Option.some.inj (hx585_0.symm.trans hx586_0)
       injection ea_ with ea_ en_ ec_
       subst ea_
       subst ec_
       clear en_
       have p587 : 0 ≤ ((rd x6_2 ((rd_T31 t573 x7_2).f0)) : Int) := zA11
       have q587 : (rd x6_2 ((rd_T31 t573 x7_2).f0)) < ((rd_L7 t576 ((rd_T31 t573 x7_2).f0)).length : Int) := zA11
       obtain ⟨ad587, e587, hx587_0, hx587_1, hx587_2⟩ := at_T34 (by repeat (first | (with_reducible exact HR586_0.out) | (with_reducible refine Kd.C_alloc ?_ _) | (with_reducible refine Kd.C_drewN ?_ _) | (with_reducible refine Kd.C_drew ?_) | exact HR586_0.out)) (rd x6_2 ((rd_T31 t573 x7_2).f0)) p587 q587
       cases e587
       replace p587 := eq_true p587
       replace q587 := eq_true q587
       have p41 : 0 ≤ (((rd_T31 t573 x7_2).f0) : Int) := zA11
       have q41 : (((rd_T31 t573 x7_2).f0) : Int) < ((x6_2.length : Int) : Int) := zA11
       obtain ⟨go41, co41, eo41, gb41, gl41, cl41, HG41⟩ := Kd.R_form HO_6.out (by omega)
       (first | cases eo41 | (injection eo41 with ea_ en_ ec_; (first | subst ea_ | (injection ea_ with ea_; subst ea_)); subst ec_; clear en_))
       have GB41 := Aside0.mk gb41
       have GG41 := Aside0.mk HG41
       clear gb41 gl41 HG41
       (first | simp only [add_plain] at hx584_0 | skip)
       obtain ⟨hx41_0, hf41_0⟩ := Kd.R_celln 0 HO_6.out (((rd_T31 t573 x7_2).f0) : Int) p41 q41
       replace p41 := eq_true p41
       replace q41 := eq_true q41
       have HP45 := Kd.R_putg HO_6.out (((rd_T31 t573 x7_2).f0) : Int) (wrap64 ((rd x6_2 ((rd_T31 t573 x7_2).f0)) + 1))
       go_wp2_with (first | ((with_reducible refine gate_store (t := 3) (p := 92) rfl ?_); (try (rw [drewN_self wc]; generalize hq_ : World.drewN wc _ = wc; (try have hx41_0 := cell_at11 hq_ hx41_0); (try have hf41_0 := frozen_at11 hq_ hf41_0); have n0_ := Aside0.mk (Kd.R_at hq_ HO_4.out); have n1_ := Aside0.mk (Kd.S_at hq_ HO_5.out); have n2_ := Aside0.mk (Kd.R_at hq_ HO_6.out); have n3_ := Aside0.mk (Kd.R_at hq_ HL585_0.out); have n4_ := Aside0.mk (Kd.R_at hq_ HL586_0.out); have n5_ := Aside0.mk (blk_at hq_ BK583.out); have n6_ := Aside0.mk (below_at hq_ HB.out); clear hq_ HO_4 HO_5 HO_6 HL585_0 HL586_0 BK583 HB; have HO_4 := n0_; have HO_5 := n1_; have HO_6 := n2_; have HL585_0 := n3_; have HL586_0 := n4_; have BK583 := n5_; have HB := n6_; clear n0_ n1_ n2_ n3_ n4_ n5_ n6_; (try (have HP45 := Kd.R_putg HO_6.out (((rd_T31 t573 x7_2).f0) : Int) (wrap64 ((rd x6_2 ((rd_T31 t573 x7_2).f0)) + 1)))))); refine store_event (t := 3) (p := 92) (v := ?vo_w46) (w1 := (wc.setCell ⟨go41, (((rd_T31 t573 x7_2).f0) : Int).toNat, none⟩ (.int .i64 (wrap64 ((rd x6_2 ((rd_T31 t573 x7_2).f0)) + 1))))) ?hg ?ho ?hn ?hr ?_; (case ho => rfl); (case hg => rfl); (case hn => rfl); (case hr => first | (go_simp; done) | (go_simp; rfl)); intro w46 hw; have hg : wc.grownBy w46 (some go41) := (by rw [hw]; exact HP45.2); have hp_ : Kd.R (Kd.int .i64) 3 w46 w.heap.size (fun _ => True) (.slice (some ⟨go41, 0, none⟩) x6_2.length co43) y588 := (by rw [hw, Ny588.out]; exact HP45.1); clear HP45; have n0_ := Aside0.mk (Kd.R_over' (v := (.slice (some ⟨go41, 0, none⟩) x6_2.length co43)) (zR11 HO_4.out) (Kd.R_typed HO_6.out) (by decide) hg); have n1_ := Aside0.mk (Kd.S_over' (v := (.slice (some ⟨go41, 0, none⟩) x6_2.length co43)) (zS11 HO_5.out) (Kd.R_typed HO_6.out) (by decide) hg); have n2_ := Aside0.mk (hp_); have n3_ := Aside0.mk (zg11 BK583.out hg (Kd.R_ne HO_6.out BK583.out (by decide))); have n4_ := Aside0.mk (Kd.R_over' (v := (.slice (some ⟨go41, 0, none⟩) x6_2.length co43)) (zR11 HL585_0.out) (Kd.R_typed HO_6.out) (by decide) hg); have n5_ := Aside0.mk (Kd.R_over' (v := (.slice (some ⟨go41, 0, none⟩) x6_2.length co43)) (zR11 HL586_0.out) (Kd.R_typed HO_6.out) (by decide) hg); have n6_ := Aside0.mk ((by rw [hw]; exact below_set (HB.out) GB41.out : Below w.heap.size w w46)); clear HO_4; clear HO_5; clear HO_6; clear BK583; clear HL585_0; clear HL586_0; clear HB; have HO_4 := n0_; have HO_5 := n1_; have HO_6 := n2_; have BK583 := n3_; have HL585_0 := n4_; have HL586_0 := n5_; have HB := n6_; clear n0_ n1_ n2_ n3_ n4_ n5_ n6_; clear hg hw hp_))
       repeat (go_quiet (first | ((with_reducible refine gate_store (t := 3) (p := 92) rfl ?_); (try (rw [drewN_self wc]; generalize hq_ : World.drewN wc _ = wc; (try have hx41_0 := cell_at11 hq_ hx41_0); (try have hf41_0 := frozen_at11 hq_ hf41_0); have n0_ := Aside0.mk (Kd.R_at hq_ HO_4.out); have n1_ := Aside0.mk (Kd.S_at hq_ HO_5.out); have n2_ := Aside0.mk (Kd.R_at hq_ HO_6.out); have n3_ := Aside0.mk (Kd.R_at hq_ HL585_0.out); have n4_ := Aside0.mk (Kd.R_at hq_ HL586_0.out); have n5_ := Aside0.mk (blk_at hq_ BK583.out); have n6_ := Aside0.mk (below_at hq_ HB.out); clear hq_ HO_4 HO_5 HO_6 HL585_0 HL586_0 BK583 HB; have HO_4 := n0_; have HO_5 := n1_; have HO_6 := n2_; have HL585_0 := n3_; have HL586_0 := n4_; have BK583 := n5_; have HB := n6_; clear n0_ n1_ n2_ n3_ n4_ n5_ n6_; (try (have HP45 := Kd.R_putg HO_6.out (((rd_T31 t573 x7_2).f0) : Int) (wrap64 ((rd x6_2 ((rd_T31 t573 x7_2).f0)) + 1)))))); refine store_event (t := 3) (p := 92) (v := ?vo_w46) (w1 := (wc.setCell ⟨go41, (((rd_T31 t573 x7_2).f0) : Int).toNat, none⟩ (.int .i64 (wrap64 ((rd x6_2 ((rd_T31 t573 x7_2).f0)) + 1))))) ?hg ?ho ?hn ?hr ?_; (case ho => rfl); (case hg => rfl); (case hn => rfl); (case hr => first | (go_simp; done) | (go_simp; rfl)); intro w46 hw; have hg : wc.grownBy w46 (some go41) := (by rw [hw]; exact HP45.2); have hp_ : Kd.R (Kd.int .i64) 3 w46 w.heap.size (fun _ => True) (.slice (some ⟨go41, 0, none⟩) x6_2.length co43) y588 := (by rw [hw, Ny588.out]; exact HP45.1); clear HP45; have n0_ := Aside0.mk (Kd.R_over' (v := (.slice (some ⟨go41, 0, none⟩) x6_2.length co43)) (zR11 HO_4.out) (Kd.R_typed HO_6.out) (by decide) hg); have n1_ := Aside0.mk (Kd.S_over' (v := (.slice (some ⟨go41, 0, none⟩) x6_2.length co43)) (zS11 HO_5.out) (Kd.R_typed HO_6.out) (by decide) hg); have n2_ := Aside0.mk (hp_); have n3_ := Aside0.mk (zg11 BK583.out hg (Kd.R_ne HO_6.out BK583.out (by decide))); have n4_ := Aside0.mk (Kd.R_over' (v := (.slice (some ⟨go41, 0, none⟩) x6_2.length co43)) (zR11 HL585_0.out) (Kd.R_typed HO_6.out) (by decide) hg); have n5_ := Aside0.mk (Kd.R_over' (v := (.slice (some ⟨go41, 0, none⟩) x6_2.length co43)) (zR11 HL586_0.out) (Kd.R_typed HO_6.out) (by decide) hg); have n6_ := Aside0.mk ((by rw [hw]; exact below_set (HB.out) GB41.out : Below w.heap.size w w46)); clear HO_4; clear HO_5; clear HO_6; clear BK583; clear HL585_0; clear HL586_0; clear HB; have HO_4 := n0_; have HO_5 := n1_; have HO_6 := n2_; have BK583 := n3_; have HL585_0 := n4_; have HL586_0 := n5_; have HB := n6_; clear n0_ n1_ n2_ n3_ n4_ n5_ n6_; clear hg hw hp_)); try go_wp2_with (first | ((with_reducible refine gate_store (t := 3) (p := 92) rfl ?_); (try (rw [drewN_self wc]; generalize hq_ : World.drewN wc _ = wc; (try have hx41_0 := cell_at11 hq_ hx41_0); (try have hf41_0 := frozen_at11 hq_ hf41_0); have n0_ := Aside0.mk (Kd.R_at hq_ HO_4.out); have n1_ := Aside0.mk (Kd.S_at hq_ HO_5.out); have n2_ := Aside0.mk (Kd.R_at hq_ HO_6.out); have n3_ := Aside0.mk (Kd.R_at hq_ HL585_0.out); have n4_ := Aside0.mk (Kd.R_at hq_ HL586_0.out); have n5_ := Aside0.mk (blk_at hq_ BK583.out); have n6_ := Aside0.mk (below_at hq_ HB.out); clear hq_ HO_4 HO_5 HO_6 HL585_0 HL586_0 BK583 HB; have HO_4 := n0_; have HO_5 := n1_; have HO_6 := n2_; have HL585_0 := n3_; have HL586_0 := n4_; have BK583 := n5_; have HB := n6_; clear n0_ n1_ n2_ n3_ n4_ n5_ n6_; (try (have HP45 := Kd.R_putg HO_6.out (((rd_T31 t573 x7_2).f0) : Int) (wrap64 ((rd x6_2 ((rd_T31 t573 x7_2).f0)) + 1)))))); refine store_event (t := 3) (p := 92) (v := ?vo_w46) (w1 := (wc.setCell ⟨go41, (((rd_T31 t573 x7_2).f0) : Int).toNat, none⟩ (.int .i64 (wrap64 ((rd x6_2 ((rd_T31 t573 x7_2).f0)) + 1))))) ?hg ?ho ?hn ?hr ?_; (case ho => rfl); (case hg => rfl); (case hn => rfl); (case hr => first | (go_simp; done) | (go_simp; rfl)); intro w46 hw; have hg : wc.grownBy w46 (some go41) := (by rw [hw]; exact HP45.2); have hp_ : Kd.R (Kd.int .i64) 3 w46 w.heap.size (fun _ => True) (.slice (some ⟨go41, 0, none⟩) x6_2.length co43) y588 := (by rw [hw, Ny588.out]; exact HP45.1); clear HP45; have n0_ := Aside0.mk (Kd.R_over' (v := (.slice (some ⟨go41, 0, none⟩) x6_2.length co43)) (zR11 HO_4.out) (Kd.R_typed HO_6.out) (by decide) hg); have n1_ := Aside0.mk (Kd.S_over' (v := (.slice (some ⟨go41, 0, none⟩) x6_2.length co43)) (zS11 HO_5.out) (Kd.R_typed HO_6.out) (by decide) hg); have n2_ := Aside0.mk (hp_); have n3_ := Aside0.mk (zg11 BK583.out hg (Kd.R_ne HO_6.out BK583.out (by decide))); have n4_ := Aside0.mk (Kd.R_over' (v := (.slice (some ⟨go41, 0, none⟩) x6_2.length co43)) (zR11 HL585_0.out) (Kd.R_typed HO_6.out) (by decide) hg); have n5_ := Aside0.mk (Kd.R_over' (v := (.slice (some ⟨go41, 0, none⟩) x6_2.length co43)) (zR11 HL586_0.out) (Kd.R_typed HO_6.out) (by decide) hg); have n6_ := Aside0.mk ((by rw [hw]; exact below_set (HB.out) GB41.out : Below w.heap.size w w46)); clear HO_4; clear HO_5; clear HO_6; clear BK583; clear HL585_0; clear HL586_0; clear HB; have HO_4 := n0_; have HO_5 := n1_; have HO_6 := n2_; have BK583 := n3_; have HL585_0 := n4_; have HL586_0 := n5_; have HB := n6_; clear n0_ n1_ n2_ n3_ n4_ n5_ n6_; clear hg hw hp_)))
       go_roundg kj18
       case measure => have := HJ5.out; have := HK2.out; have := HJ18.out; omega
       case rel => exact ⟨(y588), (wrap64 (x7_2 + 1)), (by first | rfl | (simp; done) | (simp [*]; done)), H', ⟨by have := HJ5.out; have := HK2.out; have := HJ18.out; omega⟩, ⟨by (with_reducible repeat (first | apply Kd.R_alloc | apply Kd.R_drewN | apply Kd.R_drew)); exact Kd.R_mono HO_4.out (fun _ hk => trivial)⟩, ⟨zS11 HO_5.out⟩, ⟨zR11 HO_6.out⟩, ⟨zB11_1⟩⟩

/-- THE ONE PURE STATEMENT of laws_FnByHart: yours. -/
def laws_FnByHart.Pure : Prop := ∀ (l0 : List Int), l0.length ≤ maxLen → l0.length * 1 ≤ 140737488351232 → (∀ x ∈ l0, (Lit.int .u8 x).wf = true) → ∃ k, laws_FnByHart.f k l0 = some true
theorem laws_FnByHart.walk (P : laws_FnByHart.Pure) (a0 : Option Addr) (len0 cap0 : Nat) (z0 : List Int) (w : World) (w0 : (a0 = none ∧ len0 = 0 ∧ cap0 = 0 ∧ z0 = []) ∨ ∃ x, a0 = some x ∧ len0 ≤ cap0 ∧ cap0 ≤ maxLen ∧ z0.length = cap0 ∧ (∀ i, i < z0.length → w.cell? (x.add i) = some (.int .u8 (z0.getD i 0))) ∧ ∀ n ∈ z0, (Lit.int .u8 n).wf = true) (y0 : len0 * 1 ≤ 140737488351232) :
  Calls Try.prog 3 #[.slice a0 len0 cap0] w fun e w' => e = .returned (.bool true) ∧ Below w.heap.size w w' := by
 obtain ⟨l0, rfl, hr0, hm0, hw0, hc0⟩ := ReadsInt.ofRowC w0
 obtain ⟨k, h⟩ := P l0 hm0 y0 hw0
 refine (laws_FnByHart.calls k _ _ l0 true w (Kd.C_of_reads (d := (0 : Int)) (h1 := fun _ => rfl) hr0) hc0 h).mono ?_
 rintro e w' ⟨rfl, hd⟩
 exact ⟨rfl, hd⟩

end Go.Proofs.Ytgbjengnkbomoaa.PFnByHart
