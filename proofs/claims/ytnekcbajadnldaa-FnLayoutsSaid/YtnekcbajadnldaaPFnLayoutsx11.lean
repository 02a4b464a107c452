-- made by wip/tools/myprint.py out of the seat's translation
import Derived.Test.YtnekcbajadnldaaPFnLayoutsx0
import Derived.Test.YtnekcbajadnldaaPFnLayoutsx2
import Derived.Test.YtnekcbajadnldaaPFnLayoutsx5
import Derived.Test.YtnekcbajadnldaaPFnLayoutsx8
import Derived.Test.YtnekcbajadnldaaPFnLayoutsx10
namespace Go.Proofs.Ytnekcbajadnldaa.PFnLayouts
open Go.RowKit Go.Proofs.YtnekcbajadnldaaW.PrintWords Go.Proofs.YtnekcbajadnldaaW.PrintLast Go.Proofs.YtnekcbajadnldaaW.PrintMore
attribute [local go_sem] max2_int min2_int max_two min_two max_three min_three max_four min_four   -- for this text's walks alone
set_option linter.unusedVariables false
set_option linter.unusedSimpArgs false
abbrev zq11_0 : Array Bool := #[false, false, false, false, false, false, false, false, false, false, false, false, false, false, false, false, false, false, false, false, false, false, false, false, false, false, false, false, false, false, false, false, false, false, false, false, false, false, false, false, false, false, false, false, false, false]
abbrev zq11_1 : Array Bool := #[true, false, false, false, false, false, false, false, false, false, false, false, false, false, false, false, false, false, false, false, false, false, false, false, false, false, false, false, false, false, false, false, false, false, false, false, false, false, false, false, false, false, false, false, false, false]
abbrev zq11_2 : Array Bool := #[true, true, false, false, false, false, false, false, false, false, false, false, false, false, false, false, false, false, false, false, false, false, false, false, false, false, false, false, false, false, false, false, false, false, false, false, false, false, false, false, false, false, false, false, false, false]
abbrev zq11_3 : Array Bool := #[true, true, true, false, false, false, false, false, false, false, false, false, false, false, false, false, false, false, false, false, false, false, false, false, false, false, false, false, false, false, false, false, false, false, false, false, false, false, false, false, false, false, false, false, false, false]
abbrev zq11_4 : Array Bool := #[true, true, true, false, true, false, false, false, false, false, false, false, false, false, false, false, false, false, false, false, false, false, false, false, false, false, false, false, false, false, false, false, false, false, false, false, false, false, false, false, false, false, false, false, false, false]
abbrev zq11_5 : Array Bool := #[true, true, true, false, true, true, false, false, false, false, false, false, false, false, false, false, false, false, false, false, false, false, false, false, false, false, false, false, false, false, false, false, false, false, false, false, false, false, false, false, false, false, false, false, false, false]
abbrev zq11_6 : Array Bool := #[true, true, true, false, true, true, true, false, false, false, false, false, false, false, false, false, false, false, false, false, false, false, false, false, false, false, false, false, false, false, false, false, false, false, false, false, false, false, false, false, false, false, false, false, false, false]
abbrev zq11_7 : Array Bool := #[true, true, true, false, true, true, true, true, false, false, false, false, false, false, false, false, false, false, false, false, false, false, false, false, false, false, false, false, false, false, false, false, false, false, false, false, false, false, false, false, false, false, false, false, false, false]
abbrev zq11_8 : Array Bool := #[true, true, true, false, true, true, true, true, false, false, false, true, false, false, false, false, false, false, false, false, false, false, false, false, false, false, false, false, false, false, false, false, false, false, false, false, false, false, false, false, false, false, false, false, false, false]
abbrev zq11_9 : Array Bool := #[true, true, true, true, true, true, true, true, false, false, false, true, false, false, false, false, false, false, false, false, false, false, false, false, false, false, false, false, false, false, false, false, false, false, false, false, false, false, false, false, false, false, false, false, false, false]
abbrev zq11_10 : Array Bool := #[true, true, true, true, true, true, true, true, true, false, false, true, false, false, false, false, false, false, false, false, false, false, false, false, false, false, false, false, false, false, false, false, false, false, false, false, false, false, false, false, false, false, false, false, false, false]
abbrev zq11_11 : Array Bool := #[true, true, true, true, true, true, true, true, true, true, false, true, false, false, false, false, false, false, false, false, false, false, false, false, false, false, false, false, false, false, false, false, false, false, false, false, false, false, false, false, false, false, false, false, false, false]
abbrev zq11_12 : Array Bool := #[true, true, true, true, true, true, true, true, true, true, true, true, false, false, false, false, false, false, false, false, false, false, false, false, false, false, false, false, false, false, false, false, false, false, false, false, false, false, false, false, false, false, false, false, false, false]
abbrev zq11_13 : Array Bool := #[true, true, true, true, true, true, true, true, true, true, true, true, true, false, false, false, false, false, false, false, false, false, false, false, false, false, false, false, false, false, false, false, false, false, false, false, false, false, false, false, false, false, false, false, false, false]
abbrev zq11_14 : Array Bool := #[true, true, true, true, true, true, true, true, true, true, true, true, true, true, false, false, false, false, false, false, false, false, false, false, false, false, false, false, false, false, false, false, false, false, false, false, false, false, false, false, false, false, false, false, false, false]
abbrev zq11_15 : Array Bool := #[true, true, true, true, true, true, true, true, true, true, true, true, true, true, true, false, false, false, false, false, false, false, false, false, false, false, false, false, false, false, false, false, false, false, false, false, false, false, false, false, false, false, false, false, false, false]
abbrev zq11_16 : Array Bool := #[true, true, true, true, true, true, true, true, true, true, true, true, true, true, true, true, false, false, false, false, false, false, false, false, false, false, false, false, false, false, false, false, false, false, false, false, false, false, false, false, false, false, false, false, false, false]
abbrev zq11_17 : Array Bool := #[true, true, true, true, true, true, true, true, true, true, true, true, true, true, true, true, true, false, false, false, false, false, false, false, false, false, false, false, false, false, false, false, false, false, false, false, false, false, false, false, false, false, false, false, false, false]
abbrev zq11_18 : Array Bool := #[true, true, true, true, true, true, true, true, true, true, true, true, true, true, true, true, true, true, false, false, false, false, false, false, false, false, false, false, false, false, false, false, false, false, false, false, false, false, false, false, false, false, false, false, false, false]
abbrev zq11_19 : Array Bool := #[true, true, true, true, true, true, true, true, true, true, true, true, true, true, true, true, true, true, true, false, false, false, false, false, false, false, false, false, false, false, false, false, false, false, false, false, false, false, false, false, false, false, false, false, false, false]
abbrev zq11_20 : Array Bool := #[true, true, true, true, true, true, true, true, true, true, true, true, true, true, true, true, true, true, true, true, false, false, false, false, false, false, false, false, false, false, false, false, false, false, false, false, false, false, false, false, false, false, false, false, false, false]
abbrev zq11_21 : Array Bool := #[true, true, true, true, true, true, true, true, true, true, true, true, true, true, true, true, true, true, true, true, true, false, false, false, false, false, false, false, false, false, false, false, false, false, false, false, false, false, false, false, false, false, false, false, false, false]
abbrev zq11_22 : Array Bool := #[true, true, true, true, true, true, true, true, true, true, true, true, true, true, true, true, true, true, true, true, true, true, false, false, false, false, false, false, false, false, false, false, false, false, false, false, false, false, false, false, false, false, false, false, false, false]
abbrev zq11_23 : Array Bool := #[true, true, true, true, true, true, true, true, true, true, true, true, true, true, true, true, true, true, true, true, true, true, true, false, false, false, false, false, false, false, false, false, false, false, false, false, false, false, false, false, false, false, false, false, false, false]
abbrev zq11_24 : Array Bool := #[true, true, true, true, true, true, true, true, true, true, true, true, true, true, true, true, true, true, true, true, true, true, true, true, false, false, false, false, false, false, false, false, false, false, false, false, false, false, false, false, false, false, false, false, false, false]
abbrev zq11_25 : Array Bool := #[true, true, true, true, true, true, true, true, true, true, true, true, true, true, true, true, true, true, true, true, true, true, true, true, true, false, false, false, false, false, false, false, false, false, false, false, false, false, false, false, false, false, false, false, false, false]
abbrev zq11_26 : Array Bool := #[true, true, true, true, true, true, true, true, true, true, true, true, true, true, true, true, true, true, true, true, true, true, true, true, true, true, false, false, false, false, false, false, false, false, false, false, false, false, false, false, false, false, false, false, false, false]
abbrev zq11_27 : Array Bool := #[true, true, true, true, true, true, true, true, true, true, true, true, true, true, true, true, true, true, true, true, true, true, true, true, true, true, true, false, false, false, false, false, false, false, false, false, false, false, false, false, false, false, false, false, false, false]
abbrev zq11_28 : Array Bool := #[true, true, true, true, true, true, true, true, true, true, true, true, true, true, true, true, true, true, true, true, true, true, true, true, true, true, true, true, false, false, false, false, false, false, false, false, false, false, false, false, false, false, false, false, false, false]
abbrev zq11_29 : Array Bool := #[true, true, true, true, true, true, true, true, true, true, true, true, true, true, true, true, true, true, true, true, true, true, true, true, true, true, true, true, true, false, false, false, false, false, false, false, false, false, false, false, false, false, false, false, false, false]
abbrev zq11_30 : Array Bool := #[true, true, true, true, true, true, true, true, true, true, true, true, true, true, true, true, true, true, true, true, true, true, true, true, true, true, true, true, true, true, false, false, false, false, false, false, false, false, false, false, false, false, false, false, false, false]
abbrev zq11_31 : Array Bool := #[true, true, true, true, true, true, true, true, true, true, true, true, true, true, true, true, true, true, true, true, true, true, true, true, true, true, true, true, true, true, true, false, false, false, false, false, false, false, false, false, false, false, false, false, false, false]
abbrev zq11_32 : Array Bool := #[true, true, true, true, true, true, true, true, true, true, true, true, true, true, true, true, true, true, true, true, true, true, true, true, true, true, true, true, true, true, true, true, false, false, false, false, false, false, false, false, false, false, false, false, false, false]
abbrev zq11_33 : Array Bool := #[true, true, true, true, true, true, true, true, true, true, true, true, true, true, true, true, true, true, true, true, true, true, true, true, true, true, true, true, true, true, true, true, true, false, false, false, false, false, false, false, false, false, false, false, false, false]
abbrev zq11_34 : Array Bool := #[true, true, true, true, true, true, true, true, true, true, true, true, true, true, true, true, true, true, true, true, true, true, true, true, true, true, true, true, true, true, true, true, true, true, false, false, false, false, false, false, false, false, false, false, false, false]
abbrev zq11_35 : Array Bool := #[true, true, true, true, true, true, true, true, true, true, true, true, true, true, true, true, true, true, true, true, true, true, true, true, true, true, true, true, true, true, true, true, true, true, true, false, false, false, false, false, false, false, false, false, false, false]
abbrev zq11_36 : Array Bool := #[true, true, true, true, true, true, true, true, true, true, true, true, true, true, true, true, true, true, true, true, true, true, true, true, true, true, true, true, true, true, true, true, true, true, true, true, false, false, false, false, false, false, false, false, false, false]
abbrev zq11_37 : Array Bool := #[true, true, true, true, true, true, true, true, true, true, true, true, true, true, true, true, true, true, true, true, true, true, true, true, true, true, true, true, true, true, true, true, true, true, true, true, true, false, false, false, false, false, false, false, false, false]
abbrev zq11_38 : Array Bool := #[true, true, true, true, true, true, true, true, true, true, true, true, true, true, true, true, true, true, true, true, true, true, true, true, true, true, true, true, true, true, true, true, true, true, true, true, true, true, false, false, false, false, false, false, false, false]
abbrev zq11_39 : Array Bool := #[true, true, true, true, true, true, true, true, true, true, true, true, true, true, true, true, true, true, true, true, true, true, true, true, true, true, true, true, true, true, true, true, true, true, true, true, true, true, true, false, false, false, false, false, false, false]
abbrev zq11_40 : Array Bool := #[true, true, true, true, true, true, true, true, true, true, true, true, true, true, true, true, true, true, true, true, true, true, true, true, true, true, true, true, true, true, true, true, true, true, true, true, true, true, true, true, false, false, false, false, false, false]
abbrev zq11_41 : Array Bool := #[true, true, true, true, true, true, true, true, true, true, true, true, true, true, true, true, true, true, true, true, true, true, true, true, true, true, true, true, true, true, true, true, true, true, true, true, true, true, true, true, true, false, false, false, false, false]
abbrev zq11_42 : Array Bool := #[true, true, true, true, true, true, true, true, true, true, true, true, true, true, true, true, true, true, true, true, true, true, true, true, true, true, true, true, true, true, true, true, true, true, true, true, true, true, true, true, true, true, false, false, false, false]
abbrev zq11_43 : Array Bool := #[true, true, true, true, true, true, true, true, true, true, true, true, true, true, true, true, true, true, true, true, true, true, true, true, true, true, true, true, true, true, true, true, true, true, true, true, true, true, true, true, true, true, true, false, false, false]
abbrev zq11_44 : Array Bool := #[true, true, true, true, true, true, true, true, true, true, true, true, true, true, true, true, true, true, true, true, true, true, true, true, true, true, true, true, true, true, true, true, true, true, true, true, true, true, true, true, true, true, true, true, false, false]
abbrev zq11_45 : Array Bool := #[true, true, true, true, true, true, true, true, true, true, true, true, true, true, true, true, true, true, true, true, true, true, true, true, true, true, true, true, true, true, true, true, true, true, true, true, true, true, true, true, true, true, true, true, true, false]
abbrev zq11_46 : Array Bool := #[true, true, true, true, true, true, true, true, true, true, true, true, true, true, true, true, true, true, true, true, true, true, true, true, true, true, true, true, true, true, true, true, true, true, true, true, true, true, true, true, true, true, true, true, true, true]
abbrev zq11_47 : Array Bool := #[true, true, true, true, true, true, true, true, true, true, true, true, true, true, true, true, true, true, true, true, true, true, true, false, true, false, false, false, false, false, false, false, false, false, false, false, false, false, false, false, false, false, false, false, false, false]
abbrev zq11_48 : Array Bool := #[true, true, true, true, true, true, true, true, true, true, true, true, true, true, true, true, true, true, true, true, true, true, true, false, true, true, false, false, false, false, false, false, false, false, false, false, false, false, false, false, false, false, false, false, false, false]
abbrev zq11_49 : Array Bool := #[true, true, true, true, true, true, true, true, true, true, true, true, true, true, true, true, true, true, true, true, true, true, true, false, true, true, true, false, false, false, false, false, false, false, false, false, false, false, false, false, false, false, false, false, false, false]
abbrev zq11_50 : Array Bool := #[true, true, true, true, true, true, true, true, true, true, true, true, true, true, true, true, true, true, true, true, true, true, true, false, true, true, true, true, false, false, false, false, false, false, false, false, false, false, false, false, false, false, false, false, false, false]
abbrev zq11_51 : Array Bool := #[true, true, true, true, true, true, true, true, true, true, true, true, true, true, true, true, true, true, true, true, true, true, true, false, true, true, true, true, false, false, false, true, false, false, false, false, false, false, false, false, false, false, false, false, false, false]
abbrev zq11_52 : Array Bool := #[true, true, true, true, true, true, true, true, true, true, true, true, true, true, true, true, true, true, true, true, true, true, true, true, true, true, true, true, false, false, false, true, false, false, false, false, false, false, false, false, false, false, false, false, false, false]
abbrev zq11_53 : Array Bool := #[true, true, true, true, true, true, true, true, true, true, true, true, true, true, true, true, true, true, true, true, true, true, true, true, true, true, true, true, true, false, false, true, false, false, false, false, false, false, false, false, false, false, false, false, false, false]
abbrev zq11_54 : Array Bool := #[true, true, true, true, true, true, true, true, true, true, true, true, true, true, true, true, true, true, true, true, true, true, true, true, true, true, true, true, true, true, false, true, false, false, false, false, false, false, false, false, false, false, false, false, false, false]
abbrev zq11_55 : Array Bool := #[true, true, true, true, true, true, true, true, true, true, true, true, true, true, true, true, true, true, true, true, true, true, true, true, true, true, true, true, true, true, true, true, true, true, true, true, true, true, true, true, true, false, false, true, false, false]
abbrev zq11_56 : Array Bool := #[true, true, true, true, true, true, true, true, true, true, true, true, true, true, true, true, true, true, true, true, true, true, true, true, true, true, true, true, true, true, true, true, true, true, true, true, true, true, true, true, true, true, false, true, false, false]
theorem zR11 {p q : Prop} (x : q) (h : q → p := by intro h; (with_reducible repeat (first | apply Kd.R_alloc | apply Kd.R_drewN | apply Kd.R_drew)); exact h) : p := h x
theorem zA11 {p : Prop} [Decidable p] (h : decide p = true := by first | (with_reducible assumption) | assumption) : p := of_decide_eq_true h
theorem zT11 {p : Prop} (h : p := by (try simp only [List.map_toArray, List.map_cons, List.map_nil]); first | done | rfl | (simp only [List.length_drop, List.length_take]; rfl)) : p := h
theorem zC11 {p q : Prop} (x : q) (h : q → p := by intro h; repeat (first | exact h | (with_reducible refine Kd.C_alloc ?_ _) | (with_reducible refine Kd.C_drewN ?_ _) | (with_reducible refine Kd.C_drew ?_))) : p := h x
theorem zV11 {a b : Act} (h : a = b := by simp only [Act.put, List.setIfInBounds_toArray, List.set_cons_zero, List.set_cons_succ, i64_w, i32_w]; rfl) : a = b := h
theorem zE11 {p : Prop} (h : p := by first | rfl | (simp [errW_none, errW_some] <;> rfl) | (simp [*, errW_none, errW_some] <;> rfl)) : p := h
theorem zB11_0 {p : Prop} (h : p := by repeat (first | (with_reducible first | exact HB.out | apply below_alloc | apply pw_below_drewN | apply below_drew1) | exact HB.out)) : p := h

/-! ### laws_FnLayouts: function 9 -/
mutual
def laws_FnLayouts.j0 : Nat → List (S45) → List Int → Bool → Bool → Option (Bool)
 | 0, _, _, _, _ => none
 | k + 1, x3, x4, x5, x32 => if x32 = true then (some false) else (laws_FnLayouts.l0 k x3 x4 x5 0)
def laws_FnLayouts.l0 : Nat → List (S45) → List Int → Bool → Int → Option (Bool)
 | 0, _, _, _, _ => none
 | k + 1, x3, x4, x5, x8 => if x8 < (x4.length : Int) then (if (wrap64 (x8 + 1)) < (x4.length : Int) then (if 0 ≤ (wrap64 (x8 + 1)) then (if 0 ≤ x8 then (if x8 < (x3.length : Int) then (if (wrap64 ((rd x4 x8) + (((rd_T45 x3 x8).f1).length : Int))) > (rd x4 (wrap64 (x8 + 1))) then (some false) else (if (wrap64 ((rd x4 x8) + (((rd_T45 x3 x8).f1).length : Int))) = (rd x4 (wrap64 (x8 + 1))) then ((impl_PartAt.f x3 ((rd_T45 x3 x8).f0)).bind fun t403 => (if t403 = x8 then (laws_FnLayouts.l0 k x3 x4 x5 (wrap64 (x8 + 1))) else (some false))) else (some false))) else (none)) else (none)) else (none)) else (if 0 ≤ x8 then (if x8 < (x3.length : Int) then (if (wrap64 ((rd x4 x8) + (((rd_T45 x3 x8).f1).length : Int))) > 24 then (some false) else ((impl_PartAt.f x3 ((rd_T45 x3 x8).f0)).bind fun t407 => (if t407 = x8 then (laws_FnLayouts.l0 k x3 x4 x5 (wrap64 (x8 + 1))) else (some false)))) else (none)) else (none))) else (if x5 = true then (some true) else (some ((x4.length : Int) == 0)))
end
def laws_FnLayouts.f (k : Nat) (l0 : List Int) : Option (Bool) := (laws_big.f l0).bind fun t384 => (if t384 = true then (some true) else ((spec_DrawLayout.f k l0).bind fun t385 => ((impl_Layout.f k t385).bind fun bt388 => ((spec_Layout.f k t385).bind fun bt392 => (if (bt388.2 != bt392.2) = true then (laws_FnLayouts.j0 k t385 bt388.1 bt388.2 true) else ((laws_sameInts.f k bt388.1 bt392.1).bind fun t396 => (laws_FnLayouts.j0 k t385 bt388.1 bt388.2 (!t396))))))))
theorem laws_FnLayouts.mono_l : ∀ k, (∀ y0 y1 y2 y3, LeO (laws_FnLayouts.j0 k y0 y1 y2 y3) (laws_FnLayouts.j0 (k + 1) y0 y1 y2 y3)) ∧ (∀ y0 y1 y2 y3, LeO (laws_FnLayouts.l0 k y0 y1 y2 y3) (laws_FnLayouts.l0 (k + 1) y0 y1 y2 y3))
 | 0 => ⟨fun _ _ _ _ r h => by simp [laws_FnLayouts.j0] at h, fun _ _ _ _ r h => by simp [laws_FnLayouts.l0] at h⟩
 | k + 1 => by
  obtain ⟨ih0, ih1⟩ := laws_FnLayouts.mono_l k
  refine ⟨?_, ?_⟩
  ·intro y0 y1 y2 y3
   unfold laws_FnLayouts.j0
   repeat' first
   | (with_reducible exact ih0 _ _ _ _)
   | (with_reducible exact ih1 _ _ _ _)
   | (with_reducible exact impl_Layout.mono _ _)
   | (with_reducible exact laws_sameInts.mono _ _ _)
   | (with_reducible exact spec_DrawLayout.mono _ _)
   | (with_reducible exact spec_Layout.mono _ _)
   | (with_reducible exact LeO.refl _)
   | (with_reducible exact LeO.none _)
   | (with_reducible refine LeO.ite ?_ ?_)
   | (with_reducible refine LeO.bind ?_ (fun _ => ?_))
   | exact ih0 _ _ _ _
   | exact ih1 _ _ _ _
   | exact impl_Layout.mono _ _
   | exact laws_sameInts.mono _ _ _
   | exact spec_DrawLayout.mono _ _
   | exact spec_Layout.mono _ _
   | exact LeO.none _
   | refine LeO.ite ?_ ?_
   | refine LeO.bind ?_ (fun _ => ?_)
  ·intro y0 y1 y2 y3
   unfold laws_FnLayouts.l0
   repeat' first
   | (with_reducible exact ih0 _ _ _ _)
   | (with_reducible exact ih1 _ _ _ _)
   | (with_reducible exact impl_Layout.mono _ _)
   | (with_reducible exact laws_sameInts.mono _ _ _)
   | (with_reducible exact spec_DrawLayout.mono _ _)
   | (with_reducible exact spec_Layout.mono _ _)
   | (with_reducible exact LeO.refl _)
   | (with_reducible exact LeO.none _)
   | (with_reducible refine LeO.ite ?_ ?_)
   | (with_reducible refine LeO.bind ?_ (fun _ => ?_))
   | exact ih0 _ _ _ _
   | exact ih1 _ _ _ _
   | exact impl_Layout.mono _ _
   | exact laws_sameInts.mono _ _ _
   | exact spec_DrawLayout.mono _ _
   | exact spec_Layout.mono _ _
   | exact LeO.none _
   | refine LeO.ite ?_ ?_
   | refine LeO.bind ?_ (fun _ => ?_)
theorem laws_FnLayouts.mono : ∀ a0 k, LeO (laws_FnLayouts.f k a0) (laws_FnLayouts.f (k + 1) a0) := by
 intro a0 k
 obtain ⟨ih0, ih1⟩ := laws_FnLayouts.mono_l k
 unfold laws_FnLayouts.f
 repeat' first
   | (with_reducible exact ih0 _ _ _ _)
   | (with_reducible exact ih1 _ _ _ _)
   | (with_reducible exact impl_Layout.mono _ _)
   | (with_reducible exact laws_sameInts.mono _ _ _)
   | (with_reducible exact spec_DrawLayout.mono _ _)
   | (with_reducible exact spec_Layout.mono _ _)
   | (with_reducible exact LeO.refl _)
   | (with_reducible exact LeO.none _)
   | (with_reducible refine LeO.ite ?_ ?_)
   | (with_reducible refine LeO.bind ?_ (fun _ => ?_))
   | exact ih0 _ _ _ _
   | exact ih1 _ _ _ _
   | exact impl_Layout.mono _ _
   | exact laws_sameInts.mono _ _ _
   | exact spec_DrawLayout.mono _ _
   | exact spec_Layout.mono _ _
   | exact LeO.none _
   | refine LeO.ite ?_ ?_
   | refine LeO.bind ?_ (fun _ => ?_)
def laws_FnLayouts.T14 : Bool × List (List Nat × List Nat) := (true, [([], []), ([], []), ([0, 1], [0, 1]), ([2], [2]), ([], []), ([], []), ([4, 5], [4, 5]), ([6], [6]), ([7], [7]), ([8], [8]), ([3, 9], [3, 9]), ([], []), ([10, 11], [10, 11]), ([12], [12]), ([13], [13]), ([14, 13], [13, 14]), ([13], [13]), ([16, 13], [13, 16]), ([15, 17, 13], [13, 15, 17]), ([18, 13, 13], [13, 18]), ([19], [19]), ([19], [19]), ([20, 21, 19], [19, 20, 21]), ([22, 19], [19, 22]), ([19], [19]), ([19], [19]), ([24, 25, 19], [19, 24, 25]), ([26, 19], [19, 26]), ([27, 19], [19, 27]), ([28, 19], [19, 28]), ([23, 29, 19], [19, 23, 29]), ([19], [19]), ([30, 31, 19], [19, 30, 31]), ([19, 32, 13], [13, 19, 32]), ([13, 33], [13, 33]), ([34, 19], [34]), ([35], [35]), ([35], [35]), ([35], [35]), ([37, 38, 35], [35, 37, 38]), ([39, 35], [35, 39]), ([40, 35], [35, 40]), ([36, 41, 35, 35], [35, 36, 41]), ([35], [35]), ([42, 43, 35], [35, 42, 43]), ([35, 44], [35, 44])])
def laws_FnLayouts.B14 : List Nat := [0, 0, 3, 7, 0, 0, 48, 112, 240, 496, 1023, 0, 4095, 8191, 16383, 32767, 16383, 81919, 262143, 524287, 1048575, 1048575, 4194303, 8388607, 1048575, 1048575, 51380223, 118489087, 252706815, 521142271, 1073741823, 1048575, 4294967295, 8589934591, 17179869183, 34359738367, 68719476735, 68719476735, 68719476735, 481036337151, 1030792151039, 2130303778815, 4398046511103, 68719476735, 17592186044415, 35184372088831]
theorem laws_FnLayouts.tab14 : rtab .any (opsOf Try.f9 14) = laws_FnLayouts.T14 := by kernel_rfl
theorem laws_FnLayouts.bits14 : waitsOk laws_FnLayouts.T14.2 laws_FnLayouts.B14 = true := by kernel_rfl
set_option maxHeartbeats 8000000 in
set_option maxRecDepth 100000 in
theorem laws_FnLayouts.calls (k : Nat) (A0 : Option Addr) (c0 : Nat) (l0 : List Int) (r : Bool) (w : World) (hr0 : Kd.C (Kd.int .u8) w A0 l0.length l0) (hc0 : l0.length ≤ c0) (h : laws_FnLayouts.f k l0 = some r) :
  Calls Try.prog 9 #[.slice A0 l0.length c0] w fun e w' => e = .returned (.bool r) ∧ Below w.heap.size w w' := by
 have HR0 := Aside0.mk hr0
 have HC0 := Aside0.mk hc0
 clear hr0 hc0
 have HB := Aside0.mk (Below.refl w.heap.size w)
 have H : ((laws_big.f l0).bind fun t384 => (if t384 = true then (some true) else ((spec_DrawLayout.f k l0).bind fun t385 => ((impl_Layout.f k t385).bind fun bt388 => ((spec_Layout.f k t385).bind fun bt392 => (if (bt388.2 != bt392.2) = true then (laws_FnLayouts.j0 k t385 bt388.1 bt388.2 true) else ((laws_sameInts.f k bt388.1 bt392.1).bind fun t396 => (laws_FnLayouts.j0 k t385 bt388.1 bt388.2 (!t396))))))))) = some r := h
 clear h
 replace H := Option.bind_eq_some_iff.mp H
 obtain ⟨t384, A20, H⟩ := H
 replace H : (if t384 = true then (some true) else ((spec_DrawLayout.f k l0).bind fun t385 => ((impl_Layout.f k t385).bind fun bt388 => ((spec_Layout.f k t385).bind fun bt392 => (if (bt388.2 != bt392.2) = true then (laws_FnLayouts.j0 k t385 bt388.1 bt388.2 true) else ((laws_sameInts.f k bt388.1 bt392.1).bind fun t396 => (laws_FnLayouts.j0 k t385 bt388.1 bt388.2 (!t396)))))))) = some r := H
 have A2 := Aside0.mk A20
 clear A20
 by_cases c3 : t384 = true
 ·subst c3
  have H1 : (some true) = some r := by rw [if_pos rfl] at H; exact H
  clear H
  have H := H1
  clear H1
  obtain rfl := Option.some.inj H
  go_enter Try.func9, Try.ntmps9
  go_wp2_with (first | ((with_reducible refine gate_callee (f := 34) rfl ?_); refine goesL_ (some 11) rfl rfl Try.func34 (by kernel_rfl) rfl #[.slice A0 l0.length c0] rfl zT11 ?_; (with_reducible refine (laws_big.calls _ _ l0 true _ ?side1 ?side2 A2.out).mono ?_); (case side1 => exact zC11 HR0.out); (case side2 => exact HC0.out); rintro e w' ⟨rfl, ⟨nd, rfl⟩⟩; refine ⟨_, rfl, ?_⟩))
  go_ret
  exact ⟨zE11, zB11_0⟩
 replace c3 := Bool.eq_false_iff.mpr c3
 subst c3
 have H1 : ((spec_DrawLayout.f k l0).bind fun t385 => ((impl_Layout.f k t385).bind fun bt388 => ((spec_Layout.f k t385).bind fun bt392 => (if (bt388.2 != bt392.2) = true then (laws_FnLayouts.j0 k t385 bt388.1 bt388.2 true) else ((laws_sameInts.f k bt388.1 bt392.1).bind fun t396 => (laws_FnLayouts.j0 k t385 bt388.1 bt388.2 (!t396))))))) = some r := by rw [if_neg (show ¬ (false = true) by decide)] at H; exact H
 clear H
 have H := H1
 clear H1
 replace H := Option.bind_eq_some_iff.mp H
 obtain ⟨t385, A40, H⟩ := H
 replace H : ((impl_Layout.f k t385).bind fun bt388 => ((spec_Layout.f k t385).bind fun bt392 => (if (bt388.2 != bt392.2) = true then (laws_FnLayouts.j0 k t385 bt388.1 bt388.2 true) else ((laws_sameInts.f k bt388.1 bt392.1).bind fun t396 => (laws_FnLayouts.j0 k t385 bt388.1 bt388.2 (!t396)))))) = some r := H
 have A4 := Aside0.mk A40
 clear A40
 replace H := Option.bind_eq_some_iff.mp H
 obtain ⟨⟨t388, t389⟩, A50, H⟩ := H
 replace H : ((spec_Layout.f k t385).bind fun bt392 => (if (t389 != bt392.2) = true then (laws_FnLayouts.j0 k t385 t388 t389 true) else ((laws_sameInts.f k t388 bt392.1).bind fun t396 => (laws_FnLayouts.j0 k t385 t388 t389 (!t396))))) = some r := H
 have A5 := Aside0.mk A50
 clear A50
 replace H := Option.bind_eq_some_iff.mp H
 obtain ⟨⟨t392, t393⟩, A60, H⟩ := H
 replace H : (if (t389 != t393) = true then (laws_FnLayouts.j0 k t385 t388 t389 true) else ((laws_sameInts.f k t388 t392).bind fun t396 => (laws_FnLayouts.j0 k t385 t388 t389 (!t396)))) = some r := H
 have A6 := Aside0.mk A60
 clear A60
 have HC7 := Aside0.mk H
 clear H
 go_enter Try.func9, Try.ntmps9
 go_upto_region 6 with (first | ((with_reducible refine gate_callee (f := 34) rfl ?_); refine goesL_ (some 11) rfl rfl Try.func34 (by kernel_rfl) rfl #[.slice A0 l0.length c0] rfl zT11 ?_; (with_reducible refine (laws_big.calls _ _ l0 false _ ?side1 ?side2 A2.out).mono ?_); (case side1 => exact zC11 HR0.out); (case side2 => exact HC0.out); rintro e w' ⟨rfl, ⟨nd, rfl⟩⟩; refine ⟨_, rfl, ?_⟩) | ((with_reducible refine gate_callee (f := 35) rfl ?_); refine goesL_ (some 13) rfl rfl Try.func35 (by kernel_rfl) rfl #[.slice A0 l0.length c0] rfl zT11 ?_; (with_reducible refine (spec_DrawLayout.calls k _ _ l0 t385 _ ?side1 ?side2 A4.out).mono ?_); (case side1 => exact zC11 HR0.out); (case side2 => exact HC0.out); rintro e w8 ⟨v386, rfl, ho0, hb⟩; refine ⟨_, rfl, ?_⟩; have n0_ := Aside0.mk (Kd.S_lower ho0 (below_size (zB11_0))); have n1_ := Aside0.mk (below_step (zB11_0) hb); clear HB; have HO387 := n0_; have HB := n1_; clear n0_ n1_; (try clear hb); (try clear hb2); (try clear hk); (try clear hi); (try clear ho0); obtain ⟨Ao9, co9, eo9⟩ := Kd.S_slice HO387.out; subst eo9) | ((with_reducible refine gate_callee (f := 36) rfl ?_); refine goesL_ (some 16) rfl rfl Try.func36 (by kernel_rfl) rfl #[.slice Ao9 t385.length co9] rfl zT11 ?_; (with_reducible refine (impl_Layout.calls k _ _ t385 t388 t389 _ ?side1 ?side2 A5.out).mono ?_); (case side1 => exact zC11 (Kd.S_reads' HO387.out).2.2); (case side2 => exact (Kd.S_reads' HO387.out).2.1); rintro e w10 ⟨v390, rfl, ho0, hb⟩; refine ⟨_, rfl, ?_⟩; have n0_ := Aside0.mk (Kd.S_below (by (with_reducible repeat (first | apply Kd.S_alloc | apply Kd.S_drewN | apply Kd.S_drew)); exact HO387.out) hb); have n1_ := Aside0.mk (Kd.R_lower ho0 (below_size (zB11_0))); have n2_ := Aside0.mk (below_step (zB11_0) hb); clear HO387; clear HB; have HO387 := n0_; have HO391 := n1_; have HB := n2_; clear n0_ n1_ n2_; (try clear hb); (try clear hb2); (try clear hk); (try clear hi); (try clear ho0)) | ((with_reducible refine gate_callee (f := 37) rfl ?_); refine goesL_ (some 21) rfl rfl Try.func37 (by kernel_rfl) rfl #[.slice Ao9 t385.length co9] rfl zT11 ?_; (with_reducible refine (spec_Layout.calls k _ _ t385 t392 t393 _ ?side1 ?side2 A6.out).mono ?_); (case side1 => exact zC11 (Kd.S_reads' HO387.out).2.2); (case side2 => exact (Kd.S_reads' HO387.out).2.1); rintro e w11 ⟨v394, rfl, ho0, hb⟩; refine ⟨_, rfl, ?_⟩; have n0_ := Aside0.mk (Kd.S_below (by (with_reducible repeat (first | apply Kd.S_alloc | apply Kd.S_drewN | apply Kd.S_drew)); exact HO387.out) hb); have n1_ := Aside0.mk (Kd.R_elder' (zR11 HO391.out) (Kd.R_base ho0) hb); have n2_ := Aside0.mk (Kd.R_lower (Kd.R_new' ho0 (Kd.R_lt (zR11 HO391.out))) (below_size (zB11_0))); have n3_ := Aside0.mk (below_step (zB11_0) hb); clear HO387; clear HO391; clear HB; have HO387 := n0_; have HO391 := n1_; have HO395 := n2_; have HB := n3_; clear n0_ n1_ n2_ n3_; (try clear hb); (try clear hb2); (try clear hk); (try clear hi); (try clear ho0)))
 (try simp only [Act.put, List.setIfInBounds_toArray, List.set_cons_zero, List.set_cons_succ])
 go_cut [32] (fun v32 wc => ∃ (kq : Nat) (x32_6 : Bool), v32 = .bool x32_6 ∧ Aside0 (laws_FnLayouts.j0 kq t385 t388 t389 x32_6 = some r) ∧ Aside0 (kq ≤ k) ∧ Aside0 (Kd.S k45 45 wc w.heap.size (fun _ => True) (.slice Ao9 t385.length co9) t385) ∧ Aside0 (Kd.R (Kd.int .i64) 3 wc w.heap.size (fun _ => True) v390 t388) ∧ Aside0 (Below w.heap.size w wc))
 case first =>
  have H := HC7.out
  clear HC7
  by_cases c12 : (t389 != t393) = true
  ·rw [if_pos c12] at H
   have c12b0 : (t389 != t393) = true := c12
   (try (have c12b1 : decide (t389 = t393) = false := by simpa using c12))
   (try (have c12b2 : (t389 == t393) = false := by simpa using c12))
   (try (have c12b3 : ¬ (t389 = t393) := by simpa using c12))
   clear c12
   (first | rw [c12b0] | (simp only [i64_w, i32_w]; rw [c12b0]) | skip)
   have H' := Aside0.mk H
   clear H
   go_wp2
   go_meet
   case rel => exact ⟨_, (true), (by first | rfl | (simp; done) | (simp [*]; done)), H', ⟨by first | omega | exact Nat.le_refl _⟩, ⟨by (with_reducible repeat (first | apply Kd.S_alloc | apply Kd.S_drewN | apply Kd.S_drew)); exact HO387.out⟩, ⟨by (with_reducible repeat (first | apply Kd.R_alloc | apply Kd.R_drewN | apply Kd.R_drew)); exact Kd.R_mono HO391.out (fun _ hk => trivial)⟩, ⟨zB11_0⟩⟩
  rw [if_neg c12] at H
  have c12b0 : (t389 != t393) = false := by simpa using c12
  (try (have c12b1 : decide (t389 = t393) = true := by simpa using c12))
  (try (have c12b2 : (t389 == t393) = true := by simpa using c12))
  clear c12
  (first | rw [c12b0] | (simp only [i64_w, i32_w]; rw [c12b0]) | skip)
  replace H := Option.bind_eq_some_iff.mp H
  obtain ⟨t396, A130, H⟩ := H
  replace H : (laws_FnLayouts.j0 k t385 t388 t389 (!t396)) = some r := H
  have A13 := Aside0.mk A130
  clear A130
  have H' := Aside0.mk H
  clear H
  obtain ⟨Ao14, co14, eo14⟩ := Kd.R_slice HO391.out
  subst eo14
  obtain ⟨Ao15, co15, eo15⟩ := Kd.R_slice HO395.out
  subst eo15
  go_wp2_with (first | (go_at_call 38; (with_reducible refine (laws_sameInts.calls k _ _ t388 _ _ t392 t396 _ ?side1 ?side2 ?side3 ?side4 A13.out).mono ?_); (case side1 => exact zC11 (Kd.R_reads' HO391.out).2.2); (case side2 => exact (Kd.R_reads' HO391.out).2.1); (case side3 => exact zC11 (Kd.R_reads' HO395.out).2.2); (case side4 => exact (Kd.R_reads' HO395.out).2.1); rintro e w' ⟨rfl, ⟨nd, rfl⟩⟩))
  go_meet
  case rel => exact ⟨_, (!t396), (by first | rfl | (simp; done) | (simp [*]; done)), H', ⟨by first | omega | exact Nat.le_refl _⟩, ⟨by (with_reducible repeat (first | apply Kd.S_alloc | apply Kd.S_drewN | apply Kd.S_drew)); exact HO387.out⟩, ⟨by (with_reducible repeat (first | apply Kd.R_alloc | apply Kd.R_drewN | apply Kd.R_drew)); exact Kd.R_mono HO391.out (fun _ hk => trivial)⟩, ⟨zB11_0⟩⟩
 case rest =>
  clear HC7
  try clear c1
  try clear p2
  try clear c3
  try clear c9
  try clear c12
  try clear c12b0
  try clear c12b1
  try clear c12b2
  obtain ⟨kq, x32_6, rfl, HA, HJ6, HO_3, HO_4, HB⟩ := hcut
  cases kq with
  | zero => exact absurd HA.out (by simp [laws_FnLayouts.j0])
  | succ kj6 =>
   have H := HA.out
   clear HA
   simp only [laws_FnLayouts.j0] at H
   by_cases c16 : x32_6 = true
   ·subst c16
    have H1 : (some false) = some r := by rw [if_pos rfl] at H; exact H
    clear H
    have H := H1
    clear H1
    obtain rfl := Option.some.inj H
    go_wp2
    go_ret
    exact ⟨zE11, zB11_0⟩
   replace c16 := Bool.eq_false_iff.mpr c16
   subst c16
   have H1 : (laws_FnLayouts.l0 kj6 t385 t388 t389 0) = some r := by rw [if_neg (show ¬ (false = true) by decide)] at H; exact H
   clear H
   have H := H1
   clear H1
   have H' := Aside0.mk H
   clear H
   go_wp2
   go_loopg [8] kj6 (fun kq v8 w' => ∃ (x8_2 : Int), v8 = .int .i64 x8_2 ∧ Aside0 (laws_FnLayouts.l0 kq t385 t388 t389 x8_2 = some r) ∧ Aside0 (kq ≤ kj6) ∧ Aside0 (Kd.S k45 45 w' w.heap.size (fun _ => True) (.slice Ao9 t385.length co9) t385) ∧ Aside0 (Kd.R (Kd.int .i64) 3 w' w.heap.size (fun _ => True) v390 t388) ∧ Aside0 (Below w.heap.size w w'))
   case atStart => exact ⟨(0), (by first | rfl | (simp; done) | (simp [*]; done)), H', ⟨Nat.le_refl _⟩, ⟨by (with_reducible repeat (first | apply Kd.S_alloc | apply Kd.S_drewN | apply Kd.S_drew)); exact HO_3.out⟩, ⟨zR11 HO_4.out⟩, ⟨zB11_0⟩⟩
   case round =>
    clear H'
    try clear c1
    try clear p2
    try clear c3
    try clear c9
    try clear c12
    try clear c12b0
    try clear c12b1
    try clear c12b2
    try clear c16
    try clear p2
    obtain ⟨x8_2, rfl, HA, HK2, HO_3, HO_4, HB⟩ := hrel
    cases gk with
    | zero => exact absurd HA.out (by simp [laws_FnLayouts.l0])
    | succ k2 =>
     have H := HA.out
     clear HA
     simp only [laws_FnLayouts.l0] at H
     by_cases c17 : x8_2 < (t388.length : Int)
     rotate_left
     ·rw [if_neg c17] at H
      have c17b0 : decide (x8_2 < (t388.length : Int)) = false := decide_eq_false c17
      clear c17
      by_cases c50 : t389 = true
      ·subst c50
       have H1 : (some true) = some r := by rw [if_pos rfl] at H; exact H
       clear H
       have H := H1
       clear H1
       obtain rfl := Option.some.inj H
       obtain ⟨Ao51, co51, eo51⟩ := Kd.R_slice HO_4.out
       subst eo51
       go_wp2
       go_ret
       exact ⟨zE11, zB11_0⟩
      replace c50 := Bool.eq_false_iff.mpr c50
      subst c50
      have H1 : (some ((t388.length : Int) == 0)) = some r := by rw [if_neg (show ¬ (false = true) by decide)] at H; exact H
      clear H
      have H := H1
      clear H1
      obtain rfl := Option.some.inj H
      obtain ⟨Ao52, co52, eo52⟩ := Kd.R_slice HO_4.out
      subst eo52
      go_wp2
      go_ret
      exact ⟨zE11, zB11_0⟩
     rw [if_pos c17] at H
     have c17b0 : decide (x8_2 < (t388.length : Int)) = true := decide_eq_true c17
     clear c17
     by_cases c18 : (wrap64 (x8_2 + 1)) < (t388.length : Int)
     rotate_left
     ·rw [if_neg c18] at H
      have c18b0 : decide ((wrap64 (x8_2 + 1)) < (t388.length : Int)) = false := decide_eq_false c18
      clear c18
      by_cases c37 : 0 ≤ x8_2
      rotate_left
      ·rw [if_neg c37] at H
       exact absurd H (by simp)
      rw [if_pos c37] at H
      have c37b0 : decide (0 ≤ x8_2) = true := decide_eq_true c37
      clear c37
      by_cases c38 : x8_2 < (t385.length : Int)
      rotate_left
      ·rw [if_neg c38] at H
       exact absurd H (by simp)
      rw [if_pos c38] at H
      have c38b0 : decide (x8_2 < (t385.length : Int)) = true := decide_eq_true c38
      clear c38
      by_cases c39 : (wrap64 ((rd t388 x8_2) + (((rd_T45 t385 x8_2).f1).length : Int))) > 24
      ·rw [if_pos c39] at H
       have c39b0 : decide (24 < (wrap64 ((rd t388 x8_2) + (((rd_T45 t385 x8_2).f1).length : Int)))) = true := decide_eq_true c39
       clear c39
       obtain rfl := Option.some.inj H
       obtain ⟨Ao40, co40, eo40⟩ := Kd.R_slice HO_4.out
       subst eo40
       try go_wp2
       have n0_ := Aside0.mk (Kd.S_drew HO_3.out)
       have n1_ := Aside0.mk (Kd.R_drew HO_4.out)
       have n2_ := Aside0.mk (below_drew1 HB.out)
       clear HO_3 HO_4 HB
       have HO_3 := n0_
       have HO_4 := n1_
       have HB := n2_
       clear n0_ n1_ n2_
       have p404 : 0 ≤ (x8_2 : Int) := zA11
       have q404 : x8_2 < (t388.length : Int) := zA11
       obtain ⟨ad404, e404, hx404_0⟩ := Kd.at_int (Kd.R_reads' HO_4.out).2.2 x8_2 p404 q404
       cases e404
       replace p404 := eq_true p404
       replace q404 := eq_true q404
       have p405 : 0 ≤ (x8_2 : Int) := zA11
       have q405 : x8_2 < (t385.length : Int) := zA11
       obtain ⟨ad405, A405_1, c405_1, A405_2, c405_2, e405, hx405_0, hx405_1, hx405_2, hl405_1, hi405_1, hl405_2, hi405_2⟩ := at_T45 (Kd.S_reads' HO_3.out).2.2 x8_2 p405 q405
       cases e405
       obtain ⟨ce405, hce405, hMe405, hcc405⟩ := Kd.S_get HO_3.out z45 x8_2 p405 (by first | exact q405 | exact zA11 | (have e_ := (Kd.S_reads' HO_3.out).1; omega))
       obtain ⟨ve405_1, ve405_2, rfl, ge405_1, ge405_2⟩ := k45_openM hMe405
       have hv405_1 := hcc405 1 _ rfl
       rw [add_field _ _ 1 (by omega)] at hv405_1
       replace hv405_1 := Option.some.inj (hv405_1.symm.trans hx405_1)
       rw [hv405_1] at ge405_1
       have HL405_1 := Aside0.mk (show Kd.R k52 52 _ _ _ _ ((rd_T45 t385 x8_2).f1) from ge405_1)
       clear hv405_1 ge405_1
       have hv405_2 := hcc405 2 _ rfl
       rw [add_field _ _ 2 (by omega)] at hv405_2
       replace hv405_2 := Option.some.inj (hv405_2.symm.trans hx405_2)
       rw [hv405_2] at ge405_2
       have HL405_2 := Aside0.mk (show Kd.R k56 56 _ _ _ _ ((rd_T45 t385 x8_2).f2) from ge405_2)
       clear hv405_2 ge405_2 hcc405 hce405
       have HR405_1 := Aside0.mk hi405_1
       have HC405_1 := Aside0.mk hl405_1
       clear hi405_1 hl405_1
       have HR405_2 := Aside0.mk hi405_2
       have HC405_2 := Aside0.mk hl405_2
       clear hi405_2 hl405_2
       replace p405 := eq_true p405
       replace q405 := eq_true q405
       refine start_ (n := 46) (S := fun w' => w'.cell? (ad404.add (x8_2).toNat) = some (.int .i64 (rd t388 x8_2)) ∧ w'.cell? (ad405.add ((x8_2).toNat * 3)) = some (.string ((rd_T45 t385 x8_2).f0)) ∧ w'.cell? ⟨(ad405.add ((x8_2).toNat * 3)).block, (ad405.add ((x8_2).toNat * 3)).off + 1, none⟩ = some (.slice A405_1 ((rd_T45 t385 x8_2).f1).length c405_1) ∧ w'.cell? ⟨(ad405.add ((x8_2).toNat * 3)).block, (ad405.add ((x8_2).toNat * 3)).off + 2, none⟩ = some (.slice A405_2 ((rd_T45 t385 x8_2).f2).length c405_2)) (ds := []) zq11_0 (by kernel_rfl) rfl rfl ⟨hx404_0, hx405_0, hx405_1, hx405_2⟩ (fun hHeld => ?_); refine with_tabW laws_FnLayouts.tab14 laws_FnLayouts.bits14 (fun HT_ HW_ => ?_)
       generalize wr.drew = w41 at HO_3 HO_4 HB HL405_1 HL405_2 HR405_1 HR405_2 hx404_0 hx405_0 hx405_1 hx405_2 hHeld ⊢
       refine pure_ (i := 0) (N := some 49) (v := ?_) (a' := ?_) zq11_1 rfl rfl (any_of HT_.out (by kernel_rfl)) (fun _ _ _ h => h) (Or.inl ⟨by rfl, ?_⟩) ?_ ?_
       rotate_left
       ·intro w'
        go_simp
        with_reducible rfl
       rotate_left
       ·exact zV11
       refine pure_ (i := 1) (N := some 50) (v := ?_) (a' := ?_) zq11_2 rfl rfl (any_of HT_.out (by kernel_rfl)) (fun _ _ _ h => h) (Or.inl ⟨by rfl, ?_⟩) ?_ ?_
       rotate_left
       ·intro w'
        go_simp
        with_reducible rfl
       rotate_left
       ·exact zV11
       refine pure_ (i := 2) (N := some 51) (v := ?_) (a' := ?_) zq11_3 rfl rfl (any_of HT_.out (by kernel_rfl)) (fun _ _ _ h => h) (Or.inl ⟨by rfl, ?_⟩) ?_ ?_
       rotate_left
       ·intro w'
        go_simp
        with_reducible rfl
       rotate_left
       ·exact zV11
       refine pure_ (i := 4) (N := some 53) (v := ?_) (a' := ?_) zq11_4 rfl rfl (any_of HT_.out (by kernel_rfl)) (fun _ _ _ h => h) (Or.inl ⟨by rfl, ?_⟩) ?_ ?_
       rotate_left
       ·intro w'
        go_simp
        with_reducible rfl
       rotate_left
       ·exact zV11
       refine pure_ (i := 5) (N := some 54) (v := ?_) (a' := ?_) zq11_5 rfl rfl (any_of HT_.out (by kernel_rfl)) (fun _ _ _ h => h) (Or.inl ⟨by rfl, ?_⟩) ?_ ?_
       rotate_left
       ·intro w'
        go_simp
        with_reducible rfl
       rotate_left
       ·exact zV11
       refine pure_ (i := 6) (N := some 55) (v := ?_) (a' := ?_) zq11_6 rfl rfl (any_of HT_.out (by kernel_rfl)) (fun _ _ _ h => h) (Or.inl ⟨by rfl, ?_⟩) ?_ ?_
       rotate_left
       ·intro w'
        go_simp
        with_reducible rfl
       rotate_left
       ·exact zV11
       refine pure_ (i := 7) (N := some 56) (v := ?_) (a' := ?_) zq11_7 rfl rfl (any_of HT_.out (by kernel_rfl)) (fun _ _ _ h => h) (Or.inl ⟨by rfl, ?_⟩) ?_ ?_
       rotate_left
       ·intro w'
        go_simp
        with_reducible rfl
       rotate_left
       ·exact zV11
       refine pure_ (i := 11) (N := some 60) (v := ?_) (a' := ?_) zq11_8 rfl rfl (any_of HT_.out (by kernel_rfl)) (fun _ _ _ h => h) (Or.inl ⟨by rfl, ?_⟩) ?_ ?_
       rotate_left
       ·intro w'
        go_simp
        with_reducible rfl
       rotate_left
       ·exact zV11
       refine take_ (i := 3) (N := some 52) (v := ?_) (a' := ?_) zq11_9 rfl rfl (take_ofW HT_.out HW_.out (by kernel_rfl)) (fun _ _ _ h => h) (Or.inl ⟨by rfl, ?_⟩) hHeld ?_ ?_
       rotate_left
       ·rintro w' ⟨s0, s1, s2, s3⟩
        go_simp
        with_reducible rfl
       rotate_left
       ·exact zV11
       refine take_ (i := 8) (N := some 57) (v := ?_) (a' := ?_) zq11_10 rfl rfl (take_ofW HT_.out HW_.out (by kernel_rfl)) (fun _ _ _ h => h) (Or.inl ⟨by rfl, ?_⟩) hHeld ?_ ?_
       rotate_left
       ·rintro w' ⟨s0, s1, s2, s3⟩
        go_simp
        with_reducible rfl
       rotate_left
       ·exact zV11
       refine pure_ (i := 9) (N := some 58) (v := ?_) (a' := ?_) zq11_11 rfl rfl (any_of HT_.out (by kernel_rfl)) (fun _ _ _ h => h) (Or.inl ⟨by rfl, ?_⟩) ?_ ?_
       rotate_left
       ·intro w'
        go_simp
        with_reducible rfl
       rotate_left
       ·exact zV11
       refine pure_ (i := 10) (N := some 59) (v := ?_) (a' := ?_) zq11_12 rfl rfl (any_of HT_.out (by kernel_rfl)) (fun _ _ _ h => h) (Or.inl ⟨by rfl, ?_⟩) ?_ ?_
       rotate_left
       ·intro w'
        go_simp
        with_reducible rfl
       rotate_left
       ·exact zV11
       refine pure_ (i := 12) (N := some 61) (v := ?_) (a' := ?_) zq11_13 rfl rfl (any_of HT_.out (by kernel_rfl)) (fun _ _ _ h => h) (Or.inl ⟨by rfl, ?_⟩) ?_ ?_
       rotate_left
       ·intro w'
        go_simp
        with_reducible rfl
       rotate_left
       ·exact zV11
       refine pure_ (i := 13) (N := some 62) (v := ?_) (a' := ?_) zq11_14 rfl rfl (any_of HT_.out (by kernel_rfl)) (fun _ _ _ h => h) (Or.inl ⟨by rfl, ?_⟩) ?_ ?_
       rotate_left
       ·intro w'
        go_simp
        with_reducible rfl
       rotate_left
       ·exact zV11
       refine pure_ (i := 14) (N := some 63) (v := undef) (a' := ?_) zq11_15 rfl rfl (any_of HT_.out (by kernel_rfl)) (fun _ _ _ h => h) (Or.inr ⟨by rfl, rfl⟩) ?_ ?_
       rotate_left
       ·exact zV11
       refine pure_ (i := 15) (N := some 64) (v := undef) (a' := ?_) zq11_16 rfl rfl (any_of HT_.out (by kernel_rfl)) (fun _ _ _ h => h) (Or.inr ⟨by rfl, rfl⟩) ?_ ?_
       rotate_left
       ·exact zV11
       refine pure_ (i := 16) (N := some 65) (v := undef) (a' := ?_) zq11_17 rfl rfl (any_of HT_.out (by kernel_rfl)) (fun _ _ _ h => h) (Or.inr ⟨by rfl, rfl⟩) ?_ ?_
       rotate_left
       ·exact zV11
       refine pure_ (i := 17) (N := some 66) (v := undef) (a' := ?_) zq11_18 rfl rfl (any_of HT_.out (by kernel_rfl)) (fun _ _ _ h => h) (Or.inr ⟨by rfl, rfl⟩) ?_ ?_
       rotate_left
       ·exact zV11
       refine pure_ (i := 18) (N := some 67) (v := undef) (a' := ?_) zq11_19 rfl rfl (any_of HT_.out (by kernel_rfl)) (fun _ _ _ h => h) (Or.inr ⟨by rfl, rfl⟩) ?_ ?_
       rotate_left
       ·exact zV11
       refine pure_ (i := 19) (N := some 68) (v := undef) (a' := ?_) zq11_20 rfl rfl (any_of HT_.out (by kernel_rfl)) (fun _ _ _ h => h) (Or.inr ⟨by rfl, rfl⟩) ?_ ?_
       rotate_left
       ·exact zV11
       refine pure_ (i := 20) (N := some 69) (v := undef) (a' := ?_) zq11_21 rfl rfl (any_of HT_.out (by kernel_rfl)) (fun _ _ _ h => h) (Or.inr ⟨by rfl, rfl⟩) ?_ ?_
       rotate_left
       ·exact zV11
       refine pure_ (i := 21) (N := some 70) (v := undef) (a' := ?_) zq11_22 rfl rfl (any_of HT_.out (by kernel_rfl)) (fun _ _ _ h => h) (Or.inr ⟨by rfl, rfl⟩) ?_ ?_
       rotate_left
       ·exact zV11
       refine pure_ (i := 22) (N := some 71) (v := undef) (a' := ?_) zq11_23 rfl rfl (any_of HT_.out (by kernel_rfl)) (fun _ _ _ h => h) (Or.inr ⟨by rfl, rfl⟩) ?_ ?_
       rotate_left
       ·exact zV11
       refine pure_ (i := 23) (N := some 72) (v := undef) (a' := ?_) zq11_24 rfl rfl (any_of HT_.out (by kernel_rfl)) (fun _ _ _ h => h) (Or.inr ⟨by rfl, rfl⟩) ?_ ?_
       rotate_left
       ·exact zV11
       refine pure_ (i := 24) (N := some 73) (v := undef) (a' := ?_) zq11_25 rfl rfl (any_of HT_.out (by kernel_rfl)) (fun _ _ _ h => h) (Or.inr ⟨by rfl, rfl⟩) ?_ ?_
       rotate_left
       ·exact zV11
       refine pure_ (i := 25) (N := some 74) (v := undef) (a' := ?_) zq11_26 rfl rfl (any_of HT_.out (by kernel_rfl)) (fun _ _ _ h => h) (Or.inr ⟨by rfl, rfl⟩) ?_ ?_
       rotate_left
       ·exact zV11
       refine pure_ (i := 26) (N := some 75) (v := undef) (a' := ?_) zq11_27 rfl rfl (any_of HT_.out (by kernel_rfl)) (fun _ _ _ h => h) (Or.inr ⟨by rfl, rfl⟩) ?_ ?_
       rotate_left
       ·exact zV11
       refine pure_ (i := 27) (N := some 76) (v := undef) (a' := ?_) zq11_28 rfl rfl (any_of HT_.out (by kernel_rfl)) (fun _ _ _ h => h) (Or.inr ⟨by rfl, rfl⟩) ?_ ?_
       rotate_left
       ·exact zV11
       refine pure_ (i := 28) (N := some 77) (v := undef) (a' := ?_) zq11_29 rfl rfl (any_of HT_.out (by kernel_rfl)) (fun _ _ _ h => h) (Or.inr ⟨by rfl, rfl⟩) ?_ ?_
       rotate_left
       ·exact zV11
       refine pure_ (i := 29) (N := some 78) (v := undef) (a' := ?_) zq11_30 rfl rfl (any_of HT_.out (by kernel_rfl)) (fun _ _ _ h => h) (Or.inr ⟨by rfl, rfl⟩) ?_ ?_
       rotate_left
       ·exact zV11
       refine pure_ (i := 30) (N := some 79) (v := undef) (a' := ?_) zq11_31 rfl rfl (any_of HT_.out (by kernel_rfl)) (fun _ _ _ h => h) (Or.inr ⟨by rfl, rfl⟩) ?_ ?_
       rotate_left
       ·exact zV11
       refine pure_ (i := 31) (N := some 80) (v := undef) (a' := ?_) zq11_32 rfl rfl (any_of HT_.out (by kernel_rfl)) (fun _ _ _ h => h) (Or.inr ⟨by rfl, rfl⟩) ?_ ?_
       rotate_left
       ·exact zV11
       refine pure_ (i := 32) (N := some 81) (v := undef) (a' := ?_) zq11_33 rfl rfl (any_of HT_.out (by kernel_rfl)) (fun _ _ _ h => h) (Or.inr ⟨by rfl, rfl⟩) ?_ ?_
       rotate_left
       ·exact zV11
       refine pure_ (i := 33) (N := some 82) (v := undef) (a' := ?_) zq11_34 rfl rfl (any_of HT_.out (by kernel_rfl)) (fun _ _ _ h => h) (Or.inr ⟨by rfl, rfl⟩) ?_ ?_
       rotate_left
       ·exact zV11
       refine pure_ (i := 34) (N := some 83) (v := ?_) (a' := ?_) zq11_35 rfl rfl (any_of HT_.out (by kernel_rfl)) (fun _ _ _ h => h) (Or.inl ⟨by rfl, ?_⟩) ?_ ?_
       rotate_left
       ·intro w'
        go_simp
        with_reducible rfl
       rotate_left
       ·exact zV11
       refine pure_ (i := 35) (N := some 84) (v := ?_) (a' := ?_) zq11_36 rfl rfl (any_of HT_.out (by kernel_rfl)) (fun _ _ _ h => h) (Or.inl ⟨by rfl, ?_⟩) ?_ ?_
       rotate_left
       ·intro w'
        go_simp
        with_reducible rfl
       rotate_left
       ·exact zV11
       refine pure_ (i := 36) (N := some 85) (v := undef) (a' := ?_) zq11_37 rfl rfl (any_of HT_.out (by kernel_rfl)) (fun _ _ _ h => h) (Or.inr ⟨by rfl, rfl⟩) ?_ ?_
       rotate_left
       ·exact zV11
       refine pure_ (i := 37) (N := some 86) (v := undef) (a' := ?_) zq11_38 rfl rfl (any_of HT_.out (by kernel_rfl)) (fun _ _ _ h => h) (Or.inr ⟨by rfl, rfl⟩) ?_ ?_
       rotate_left
       ·exact zV11
       refine pure_ (i := 38) (N := some 87) (v := undef) (a' := ?_) zq11_39 rfl rfl (any_of HT_.out (by kernel_rfl)) (fun _ _ _ h => h) (Or.inr ⟨by rfl, rfl⟩) ?_ ?_
       rotate_left
       ·exact zV11
       refine pure_ (i := 39) (N := some 88) (v := undef) (a' := ?_) zq11_40 rfl rfl (any_of HT_.out (by kernel_rfl)) (fun _ _ _ h => h) (Or.inr ⟨by rfl, rfl⟩) ?_ ?_
       rotate_left
       ·exact zV11
       refine pure_ (i := 40) (N := some 89) (v := undef) (a' := ?_) zq11_41 rfl rfl (any_of HT_.out (by kernel_rfl)) (fun _ _ _ h => h) (Or.inr ⟨by rfl, rfl⟩) ?_ ?_
       rotate_left
       ·exact zV11
       refine pure_ (i := 41) (N := some 90) (v := undef) (a' := ?_) zq11_42 rfl rfl (any_of HT_.out (by kernel_rfl)) (fun _ _ _ h => h) (Or.inr ⟨by rfl, rfl⟩) ?_ ?_
       rotate_left
       ·exact zV11
       refine pure_ (i := 42) (N := some 91) (v := undef) (a' := ?_) zq11_43 rfl rfl (any_of HT_.out (by kernel_rfl)) (fun _ _ _ h => h) (Or.inr ⟨by rfl, rfl⟩) ?_ ?_
       rotate_left
       ·exact zV11
       refine pure_ (i := 43) (N := some 92) (v := undef) (a' := ?_) zq11_44 rfl rfl (any_of HT_.out (by kernel_rfl)) (fun _ _ _ h => h) (Or.inr ⟨by rfl, rfl⟩) ?_ ?_
       rotate_left
       ·exact zV11
       refine pure_ (i := 44) (N := some 93) (v := undef) (a' := ?_) zq11_45 rfl rfl (any_of HT_.out (by kernel_rfl)) (fun _ _ _ h => h) (Or.inr ⟨by rfl, rfl⟩) ?_ ?_
       rotate_left
       ·exact zV11
       refine pure_ (i := 45) (N := some 94) (v := ?_) (a' := ?_) zq11_46 rfl rfl (any_of HT_.out (by kernel_rfl)) (fun _ _ _ h => h) (Or.inl ⟨by rfl, ?_⟩) ?_ ?_
       rotate_left
       ·intro w'
        go_simp
        with_reducible rfl
       rotate_left
       ·exact zV11
       refine done_ (done_of HT_.out (by kernel_rfl)) ?_
       try go_wp2
       go_ret
       exact ⟨zE11, zB11_0⟩
      rw [if_neg c39] at H
      have c39b0 : decide (24 < (wrap64 ((rd t388 x8_2) + (((rd_T45 t385 x8_2).f1).length : Int)))) = false := decide_eq_false c39
      clear c39
      replace H := Option.bind_eq_some_iff.mp H
      obtain ⟨t407, A420, H⟩ := H
      replace H : (if t407 = x8_2 then (laws_FnLayouts.l0 k2 t385 t388 t389 (wrap64 (x8_2 + 1))) else (some false)) = some r := H
      have A42 := Aside0.mk A420
      clear A420
      by_cases c43 : t407 = x8_2
      rotate_left
      ·rw [if_neg c43] at H
       have c43b0 : (t407 == x8_2) = false := beq_eq_false_iff_ne.mpr c43
       have c43b1 : (t407 != x8_2) = true := bne_iff_ne.mpr c43
       obtain rfl := Option.some.inj H
       obtain ⟨Ao47, co47, eo47⟩ := Kd.R_slice HO_4.out
       subst eo47
       try go_wp2
       have n0_ := Aside0.mk (Kd.S_drew HO_3.out)
       have n1_ := Aside0.mk (Kd.R_drew HO_4.out)
       have n2_ := Aside0.mk (below_drew1 HB.out)
       clear HO_3 HO_4 HB
       have HO_3 := n0_
       have HO_4 := n1_
       have HB := n2_
       clear n0_ n1_ n2_
       have p404 : 0 ≤ (x8_2 : Int) := zA11
       have q404 : x8_2 < (t388.length : Int) := zA11
       obtain ⟨ad404, e404, hx404_0⟩ := Kd.at_int (Kd.R_reads' HO_4.out).2.2 x8_2 p404 q404
       cases e404
       replace p404 := eq_true p404
       replace q404 := eq_true q404
       have p405 : 0 ≤ (x8_2 : Int) := zA11
       have q405 : x8_2 < (t385.length : Int) := zA11
       obtain ⟨ad405, A405_1, c405_1, A405_2, c405_2, e405, hx405_0, hx405_1, hx405_2, hl405_1, hi405_1, hl405_2, hi405_2⟩ := at_T45 (Kd.S_reads' HO_3.out).2.2 x8_2 p405 q405
       cases e405
       obtain ⟨ce405, hce405, hMe405, hcc405⟩ := Kd.S_get HO_3.out z45 x8_2 p405 (by first | exact q405 | exact zA11 | (have e_ := (Kd.S_reads' HO_3.out).1; omega))
       obtain ⟨ve405_1, ve405_2, rfl, ge405_1, ge405_2⟩ := k45_openM hMe405
       have hv405_1 := hcc405 1 _ rfl
       rw [add_field _ _ 1 (by omega)] at hv405_1
       replace hv405_1 := Option.some.inj (hv405_1.symm.trans hx405_1)
       rw [hv405_1] at ge405_1
       have HL405_1 := Aside0.mk (show Kd.R k52 52 _ _ _ _ ((rd_T45 t385 x8_2).f1) from ge405_1)
       clear hv405_1 ge405_1
       have hv405_2 := hcc405 2 _ rfl
       rw [add_field _ _ 2 (by omega)] at hv405_2
       replace hv405_2 := Option.some.inj (hv405_2.symm.trans hx405_2)
       rw [hv405_2] at ge405_2
       have HL405_2 := Aside0.mk (show Kd.R k56 56 _ _ _ _ ((rd_T45 t385 x8_2).f2) from ge405_2)
       clear hv405_2 ge405_2 hcc405 hce405
       have HR405_1 := Aside0.mk hi405_1
       have HC405_1 := Aside0.mk hl405_1
       clear hi405_1 hl405_1
       have HR405_2 := Aside0.mk hi405_2
       have HC405_2 := Aside0.mk hl405_2
       clear hi405_2 hl405_2
       replace p405 := eq_true p405
       replace q405 := eq_true q405
       have p406 : 0 ≤ (x8_2 : Int) := zA11
       have q406 : x8_2 < (t385.length : Int) := zA11
       obtain ⟨ad406, A406_1, c406_1, A406_2, c406_2, e406, hx406_0, hx406_1, hx406_2, hl406_1, hi406_1, hl406_2, hi406_2⟩ := at_T45 (Kd.S_reads' HO_3.out).2.2 x8_2 p406 q406
       obtain rfl : ad405 = ad406 := (by injection e406)
       obtain ⟨ce406, hce406, hMe406, hcc406⟩ := Kd.S_get HO_3.out z45 x8_2 p406 (by first | exact q406 | exact zA11 | (have e_ := (Kd.S_reads' HO_3.out).1; omega))
       obtain ⟨ve406_1, ve406_2, rfl, ge406_1, ge406_2⟩ := k45_openM hMe406
       have hv406_1 := hcc406 1 _ rfl
       rw [add_field _ _ 1 (by omega)] at hv406_1
       replace hv406_1 := Option.some.inj (hv406_1.symm.trans hx406_1)
       rw [hv406_1] at ge406_1
       have HL406_1 := Aside0.mk (show Kd.R k52 52 _ _ _ _ ((rd_T45 t385 x8_2).f1) from ge406_1)
       clear hv406_1 ge406_1
       have hv406_2 := hcc406 2 _ rfl
       rw [add_field _ _ 2 (by omega)] at hv406_2
       replace hv406_2 := Option.some.inj (hv406_2.symm.trans hx406_2)
       rw [hv406_2] at ge406_2
       have HL406_2 := Aside0.mk (show Kd.R k56 56 _ _ _ _ ((rd_T45 t385 x8_2).f2) from ge406_2)
       clear hv406_2 ge406_2 hcc406 hce406
       have HR406_1 := Aside0.mk hi406_1
       have HC406_1 := Aside0.mk hl406_1
       clear hi406_1 hl406_1
       have HR406_2 := Aside0.mk hi406_2
       have HC406_2 := Aside0.mk hl406_2
       clear hi406_2 hl406_2
       replace p406 := eq_true p406
       replace q406 := eq_true q406
       have ea_ := Option.some.inj (hx405_1.symm.trans hx406_1)
       injection ea_ with ea_ en_ ec_
       subst ea_
       subst ec_
       clear en_
       have ea_ := Option.some.inj (hx405_2.symm.trans hx406_2)
       injection ea_ with ea_ en_ ec_
       subst ea_
       subst ec_
       clear en_
       refine start_ (n := 46) (S := fun w' => w'.cell? (ad404.add (x8_2).toNat) = some (.int .i64 (rd t388 x8_2)) ∧ w'.cell? (ad405.add ((x8_2).toNat * 3)) = some (.string ((rd_T45 t385 x8_2).f0)) ∧ w'.cell? ⟨(ad405.add ((x8_2).toNat * 3)).block, (ad405.add ((x8_2).toNat * 3)).off + 1, none⟩ = some (.slice A405_1 ((rd_T45 t385 x8_2).f1).length c405_1) ∧ w'.cell? ⟨(ad405.add ((x8_2).toNat * 3)).block, (ad405.add ((x8_2).toNat * 3)).off + 2, none⟩ = some (.slice A405_2 ((rd_T45 t385 x8_2).f2).length c405_2) ∧ w'.cell? (ad405.add ((x8_2).toNat * 3)) = some (.string ((rd_T45 t385 x8_2).f0)) ∧ w'.cell? ⟨(ad405.add ((x8_2).toNat * 3)).block, (ad405.add ((x8_2).toNat * 3)).off + 1, none⟩ = some (.slice A405_1 ((rd_T45 t385 x8_2).f1).length c405_1) ∧ w'.cell? ⟨(ad405.add ((x8_2).toNat * 3)).block, (ad405.add ((x8_2).toNat * 3)).off + 2, none⟩ = some (.slice A405_2 ((rd_T45 t385 x8_2).f2).length c405_2)) (ds := []) zq11_0 (by kernel_rfl) rfl rfl ⟨hx404_0, hx405_0, hx405_1, hx405_2, hx406_0, hx406_1, hx406_2⟩ (fun hHeld => ?_); refine with_tabW laws_FnLayouts.tab14 laws_FnLayouts.bits14 (fun HT_ HW_ => ?_)
       generalize wr.drew = w48 at HO_3 HO_4 HB HL405_1 HL405_2 HL406_1 HL406_2 HR405_1 HR405_2 HR406_1 HR406_2 hx404_0 hx405_0 hx405_1 hx405_2 hx406_0 hx406_1 hx406_2 hHeld ⊢
       refine pure_ (i := 0) (N := some 49) (v := ?_) (a' := ?_) zq11_1 rfl rfl (any_of HT_.out (by kernel_rfl)) (fun _ _ _ h => h) (Or.inl ⟨by rfl, ?_⟩) ?_ ?_
       rotate_left
       ·intro w'
        go_simp
        with_reducible rfl
       rotate_left
       ·exact zV11
       refine pure_ (i := 1) (N := some 50) (v := ?_) (a' := ?_) zq11_2 rfl rfl (any_of HT_.out (by kernel_rfl)) (fun _ _ _ h => h) (Or.inl ⟨by rfl, ?_⟩) ?_ ?_
       rotate_left
       ·intro w'
        go_simp
        with_reducible rfl
       rotate_left
       ·exact zV11
       refine pure_ (i := 2) (N := some 51) (v := ?_) (a' := ?_) zq11_3 rfl rfl (any_of HT_.out (by kernel_rfl)) (fun _ _ _ h => h) (Or.inl ⟨by rfl, ?_⟩) ?_ ?_
       rotate_left
       ·intro w'
        go_simp
        with_reducible rfl
       rotate_left
       ·exact zV11
       refine pure_ (i := 4) (N := some 53) (v := ?_) (a' := ?_) zq11_4 rfl rfl (any_of HT_.out (by kernel_rfl)) (fun _ _ _ h => h) (Or.inl ⟨by rfl, ?_⟩) ?_ ?_
       rotate_left
       ·intro w'
        go_simp
        with_reducible rfl
       rotate_left
       ·exact zV11
       refine pure_ (i := 5) (N := some 54) (v := ?_) (a' := ?_) zq11_5 rfl rfl (any_of HT_.out (by kernel_rfl)) (fun _ _ _ h => h) (Or.inl ⟨by rfl, ?_⟩) ?_ ?_
       rotate_left
       ·intro w'
        go_simp
        with_reducible rfl
       rotate_left
       ·exact zV11
       refine pure_ (i := 6) (N := some 55) (v := ?_) (a' := ?_) zq11_6 rfl rfl (any_of HT_.out (by kernel_rfl)) (fun _ _ _ h => h) (Or.inl ⟨by rfl, ?_⟩) ?_ ?_
       rotate_left
       ·intro w'
        go_simp
        with_reducible rfl
       rotate_left
       ·exact zV11
       refine pure_ (i := 7) (N := some 56) (v := ?_) (a' := ?_) zq11_7 rfl rfl (any_of HT_.out (by kernel_rfl)) (fun _ _ _ h => h) (Or.inl ⟨by rfl, ?_⟩) ?_ ?_
       rotate_left
       ·intro w'
        go_simp
        with_reducible rfl
       rotate_left
       ·exact zV11
       refine pure_ (i := 11) (N := some 60) (v := ?_) (a' := ?_) zq11_8 rfl rfl (any_of HT_.out (by kernel_rfl)) (fun _ _ _ h => h) (Or.inl ⟨by rfl, ?_⟩) ?_ ?_
       rotate_left
       ·intro w'
        go_simp
        with_reducible rfl
       rotate_left
       ·exact zV11
       refine take_ (i := 3) (N := some 52) (v := ?_) (a' := ?_) zq11_9 rfl rfl (take_ofW HT_.out HW_.out (by kernel_rfl)) (fun _ _ _ h => h) (Or.inl ⟨by rfl, ?_⟩) hHeld ?_ ?_
       rotate_left
       ·rintro w' ⟨s0, s1, s2, s3, s4, s5, s6⟩
        go_simp
        with_reducible rfl
       rotate_left
       ·exact zV11
       refine take_ (i := 8) (N := some 57) (v := ?_) (a' := ?_) zq11_10 rfl rfl (take_ofW HT_.out HW_.out (by kernel_rfl)) (fun _ _ _ h => h) (Or.inl ⟨by rfl, ?_⟩) hHeld ?_ ?_
       rotate_left
       ·rintro w' ⟨s0, s1, s2, s3, s4, s5, s6⟩
        go_simp
        with_reducible rfl
       rotate_left
       ·exact zV11
       refine pure_ (i := 9) (N := some 58) (v := ?_) (a' := ?_) zq11_11 rfl rfl (any_of HT_.out (by kernel_rfl)) (fun _ _ _ h => h) (Or.inl ⟨by rfl, ?_⟩) ?_ ?_
       rotate_left
       ·intro w'
        go_simp
        with_reducible rfl
       rotate_left
       ·exact zV11
       refine pure_ (i := 10) (N := some 59) (v := ?_) (a' := ?_) zq11_12 rfl rfl (any_of HT_.out (by kernel_rfl)) (fun _ _ _ h => h) (Or.inl ⟨by rfl, ?_⟩) ?_ ?_
       rotate_left
       ·intro w'
        go_simp
        with_reducible rfl
       rotate_left
       ·exact zV11
       refine pure_ (i := 12) (N := some 61) (v := ?_) (a' := ?_) zq11_13 rfl rfl (any_of HT_.out (by kernel_rfl)) (fun _ _ _ h => h) (Or.inl ⟨by rfl, ?_⟩) ?_ ?_
       rotate_left
       ·intro w'
        go_simp
        with_reducible rfl
       rotate_left
       ·exact zV11
       refine pure_ (i := 13) (N := some 62) (v := ?_) (a' := ?_) zq11_14 rfl rfl (any_of HT_.out (by kernel_rfl)) (fun _ _ _ h => h) (Or.inl ⟨by rfl, ?_⟩) ?_ ?_
       rotate_left
       ·intro w'
        go_simp
        with_reducible rfl
       rotate_left
       ·exact zV11
       refine pure_ (i := 14) (N := some 63) (v := ?_) (a' := ?_) zq11_15 rfl rfl (any_of HT_.out (by kernel_rfl)) (fun _ _ _ h => h) (Or.inl ⟨by rfl, ?_⟩) ?_ ?_
       rotate_left
       ·intro w'
        go_simp
        with_reducible rfl
       rotate_left
       ·exact zV11
       refine pure_ (i := 15) (N := some 64) (v := ?_) (a' := ?_) zq11_16 rfl rfl (any_of HT_.out (by kernel_rfl)) (fun _ _ _ h => h) (Or.inl ⟨by rfl, ?_⟩) ?_ ?_
       rotate_left
       ·intro w'
        go_simp
        with_reducible rfl
       rotate_left
       ·exact zV11
       refine pure_ (i := 16) (N := some 65) (v := ?_) (a' := ?_) zq11_17 rfl rfl (any_of HT_.out (by kernel_rfl)) (fun _ _ _ h => h) (Or.inl ⟨by rfl, ?_⟩) ?_ ?_
       rotate_left
       ·intro w'
        go_simp
        with_reducible rfl
       rotate_left
       ·exact zV11
       refine pure_ (i := 17) (N := some 66) (v := ?_) (a' := ?_) zq11_18 rfl rfl (any_of HT_.out (by kernel_rfl)) (fun _ _ _ h => h) (Or.inl ⟨by rfl, ?_⟩) ?_ ?_
       rotate_left
       ·intro w'
        go_simp
        with_reducible rfl
       rotate_left
       ·exact zV11
       refine pure_ (i := 18) (N := some 67) (v := ?_) (a' := ?_) zq11_19 rfl rfl (any_of HT_.out (by kernel_rfl)) (fun _ _ _ h => h) (Or.inl ⟨by rfl, ?_⟩) ?_ ?_
       rotate_left
       ·intro w'
        go_simp
        with_reducible rfl
       rotate_left
       ·exact zV11
       refine pure_ (i := 19) (N := some 68) (v := ?_) (a' := ?_) zq11_20 rfl rfl (any_of HT_.out (by kernel_rfl)) (fun _ _ _ h => h) (Or.inl ⟨by rfl, ?_⟩) ?_ ?_
       rotate_left
       ·intro w'
        go_simp
        with_reducible rfl
       rotate_left
       ·exact zV11
       refine pure_ (i := 20) (N := some 69) (v := undef) (a' := ?_) zq11_21 rfl rfl (any_of HT_.out (by kernel_rfl)) (fun _ _ _ h => h) (Or.inr ⟨by rfl, rfl⟩) ?_ ?_
       rotate_left
       ·exact zV11
       refine pure_ (i := 21) (N := some 70) (v := undef) (a' := ?_) zq11_22 rfl rfl (any_of HT_.out (by kernel_rfl)) (fun _ _ _ h => h) (Or.inr ⟨by rfl, rfl⟩) ?_ ?_
       rotate_left
       ·exact zV11
       refine pure_ (i := 22) (N := some 71) (v := undef) (a' := ?_) zq11_23 rfl rfl (any_of HT_.out (by kernel_rfl)) (fun _ _ _ h => h) (Or.inr ⟨by rfl, rfl⟩) ?_ ?_
       rotate_left
       ·exact zV11
       refine pure_ (i := 23) (N := some 72) (v := undef) (a' := ?_) zq11_24 rfl rfl (any_of HT_.out (by kernel_rfl)) (fun _ _ _ h => h) (Or.inr ⟨by rfl, rfl⟩) ?_ ?_
       rotate_left
       ·exact zV11
       refine pure_ (i := 24) (N := some 73) (v := undef) (a' := ?_) zq11_25 rfl rfl (any_of HT_.out (by kernel_rfl)) (fun _ _ _ h => h) (Or.inr ⟨by rfl, rfl⟩) ?_ ?_
       rotate_left
       ·exact zV11
       refine pure_ (i := 25) (N := some 74) (v := undef) (a' := ?_) zq11_26 rfl rfl (any_of HT_.out (by kernel_rfl)) (fun _ _ _ h => h) (Or.inr ⟨by rfl, rfl⟩) ?_ ?_
       rotate_left
       ·exact zV11
       refine pure_ (i := 26) (N := some 75) (v := undef) (a' := ?_) zq11_27 rfl rfl (any_of HT_.out (by kernel_rfl)) (fun _ _ _ h => h) (Or.inr ⟨by rfl, rfl⟩) ?_ ?_
       rotate_left
       ·exact zV11
       refine pure_ (i := 27) (N := some 76) (v := undef) (a' := ?_) zq11_28 rfl rfl (any_of HT_.out (by kernel_rfl)) (fun _ _ _ h => h) (Or.inr ⟨by rfl, rfl⟩) ?_ ?_
       rotate_left
       ·exact zV11
       refine pure_ (i := 28) (N := some 77) (v := undef) (a' := ?_) zq11_29 rfl rfl (any_of HT_.out (by kernel_rfl)) (fun _ _ _ h => h) (Or.inr ⟨by rfl, rfl⟩) ?_ ?_
       rotate_left
       ·exact zV11
       refine pure_ (i := 29) (N := some 78) (v := undef) (a' := ?_) zq11_30 rfl rfl (any_of HT_.out (by kernel_rfl)) (fun _ _ _ h => h) (Or.inr ⟨by rfl, rfl⟩) ?_ ?_
       rotate_left
       ·exact zV11
       refine pure_ (i := 30) (N := some 79) (v := undef) (a' := ?_) zq11_31 rfl rfl (any_of HT_.out (by kernel_rfl)) (fun _ _ _ h => h) (Or.inr ⟨by rfl, rfl⟩) ?_ ?_
       rotate_left
       ·exact zV11
       refine pure_ (i := 31) (N := some 80) (v := undef) (a' := ?_) zq11_32 rfl rfl (any_of HT_.out (by kernel_rfl)) (fun _ _ _ h => h) (Or.inr ⟨by rfl, rfl⟩) ?_ ?_
       rotate_left
       ·exact zV11
       refine pure_ (i := 32) (N := some 81) (v := undef) (a' := ?_) zq11_33 rfl rfl (any_of HT_.out (by kernel_rfl)) (fun _ _ _ h => h) (Or.inr ⟨by rfl, rfl⟩) ?_ ?_
       rotate_left
       ·exact zV11
       refine pure_ (i := 33) (N := some 82) (v := ?_) (a' := ?_) zq11_34 rfl rfl (any_of HT_.out (by kernel_rfl)) (fun _ _ _ h => h) (Or.inl ⟨by rfl, ?_⟩) ?_ ?_
       rotate_left
       ·intro w'
        go_simp
        with_reducible rfl
       rotate_left
       ·exact zV11
       refine pure_ (i := 34) (N := some 83) (v := ?_) (a' := ?_) zq11_35 rfl rfl (any_of HT_.out (by kernel_rfl)) (fun _ _ _ h => h) (Or.inl ⟨by rfl, ?_⟩) ?_ ?_
       rotate_left
       ·intro w'
        go_simp
        with_reducible rfl
       rotate_left
       ·exact zV11
       refine pure_ (i := 35) (N := some 84) (v := ?_) (a' := ?_) zq11_36 rfl rfl (any_of HT_.out (by kernel_rfl)) (fun _ _ _ h => h) (Or.inl ⟨by rfl, ?_⟩) ?_ ?_
       rotate_left
       ·intro w'
        go_simp
        with_reducible rfl
       rotate_left
       ·exact zV11
       refine pure_ (i := 36) (N := some 85) (v := ?_) (a' := ?_) zq11_37 rfl rfl (any_of HT_.out (by kernel_rfl)) (fun _ _ _ h => h) (Or.inl ⟨by rfl, ?_⟩) ?_ ?_
       rotate_left
       ·intro w'
        go_simp
        with_reducible rfl
       rotate_left
       ·exact zV11
       refine pure_ (i := 37) (N := some 86) (v := ?_) (a' := ?_) zq11_38 rfl rfl (any_of HT_.out (by kernel_rfl)) (fun _ _ _ h => h) (Or.inl ⟨by rfl, ?_⟩) ?_ ?_
       rotate_left
       ·intro w'
        go_simp
        with_reducible rfl
       rotate_left
       ·exact zV11
       refine pure_ (i := 38) (N := some 87) (v := ?_) (a' := ?_) zq11_39 rfl rfl (any_of HT_.out (by kernel_rfl)) (fun _ _ _ h => h) (Or.inl ⟨by rfl, ?_⟩) ?_ ?_
       rotate_left
       ·intro w'
        go_simp
        with_reducible rfl
       rotate_left
       ·exact zV11
       refine pure_ (i := 39) (N := some 88) (v := ?_) (a' := ?_) zq11_40 rfl rfl (any_of HT_.out (by kernel_rfl)) (fun _ _ _ h => h) (Or.inl ⟨by rfl, ?_⟩) ?_ ?_
       rotate_left
       ·intro w'
        go_simp
        with_reducible rfl
       rotate_left
       ·exact zV11
       refine pure_ (i := 40) (N := some 89) (v := ?_) (a' := ?_) zq11_41 rfl rfl (any_of HT_.out (by kernel_rfl)) (fun _ _ _ h => h) (Or.inl ⟨by rfl, ?_⟩) ?_ ?_
       rotate_left
       ·intro w'
        go_simp
        with_reducible rfl
       rotate_left
       ·exact zV11
       refine pure_ (i := 43) (N := some 92) (v := ?_) (a' := ?_) zq11_55 rfl rfl (any_of HT_.out (by kernel_rfl)) (fun _ _ _ h => h) (Or.inl ⟨by rfl, ?_⟩) ?_ ?_
       rotate_left
       ·intro w'
        go_simp
        with_reducible rfl
       rotate_left
       ·exact zV11
       refine take_ (i := 41) (N := some 90) (v := ?_) (a' := ?_) zq11_56 rfl rfl (take_ofW HT_.out HW_.out (by kernel_rfl)) (fun _ _ _ h => h) (Or.inl ⟨by rfl, ?_⟩) hHeld ?_ ?_
       rotate_left
       ·rintro w' ⟨s0, s1, s2, s3, s4, s5, s6⟩
        go_simp
        with_reducible rfl
       rotate_left
       ·exact zV11
       refine one_ (i := 42) (N := some 91) zq11_44 rfl rfl (one_of HT_.out (by kernel_rfl)) (by decide) (fun K hK => ?_)
       refine goes_ Try.func39 (by kernel_rfl) rfl #[.slice (some ad405) t385.length co9, .string ((rd_T45 t385 x8_2).f0)] (by rfl) rfl rfl zT11 ?_
       with_reducible refine (impl_PartAt.calls _ _ t385 ((rd_T45 t385 x8_2).f0) t407 _ ?side1 ?side2 A42.out).mono ?_
       (case side1 => exact zC11 (Kd.S_reads' HO_3.out).2.2)
       (case side2 => exact (Kd.S_reads' HO_3.out).2.1)
       rintro e w49 ⟨rfl, hb⟩
       have HS0_ := (hb.cell (World.block_lt_of_cell? _ _ (hHeld.1))).trans (hHeld.1)
       have HS1_ := (hb.cell (World.block_lt_of_cell? _ _ (hHeld.2.1))).trans (hHeld.2.1)
       have HS2_ := (hb.cell (World.block_lt_of_cell? _ _ (hHeld.2.2.1))).trans (hHeld.2.2.1)
       have HS3_ := (hb.cell (World.block_lt_of_cell? _ _ (hHeld.2.2.2.1))).trans (hHeld.2.2.2.1)
       have HS4_ := (hb.cell (World.block_lt_of_cell? _ _ (hHeld.2.2.2.2.1))).trans (hHeld.2.2.2.2.1)
       have HS5_ := (hb.cell (World.block_lt_of_cell? _ _ (hHeld.2.2.2.2.2.1))).trans (hHeld.2.2.2.2.2.1)
       have HS6_ := (hb.cell (World.block_lt_of_cell? _ _ (hHeld.2.2.2.2.2.2))).trans (hHeld.2.2.2.2.2.2)
       refine ⟨_, rfl, ?_⟩
       have n0_ := Aside0.mk (Kd.S_below (by (with_reducible repeat (first | apply Kd.S_alloc | apply Kd.S_drewN | apply Kd.S_drew)); exact HO_3.out) hb)
       have n1_ := Aside0.mk (Kd.R_below (zR11 HO_4.out) hb)
       have n2_ := Aside0.mk (Kd.R_below (zR11 HL405_1.out) hb)
       have n3_ := Aside0.mk (Kd.R_below (zR11 HL405_2.out) hb)
       have n4_ := Aside0.mk (Kd.R_below (zR11 HL406_1.out) hb)
       have n5_ := Aside0.mk (Kd.R_below (zR11 HL406_2.out) hb)
       have n6_ := Aside0.mk (Kd.C_below (by repeat (first | (with_reducible exact HR405_1.out) | (with_reducible refine Kd.C_alloc ?_ _) | (with_reducible refine Kd.C_drewN ?_ _) | (with_reducible refine Kd.C_drew ?_) | exact HR405_1.out)) hb)
       have n7_ := Aside0.mk (Kd.C_below (by repeat (first | (with_reducible exact HR405_2.out) | (with_reducible refine Kd.C_alloc ?_ _) | (with_reducible refine Kd.C_drewN ?_ _) | (with_reducible refine Kd.C_drew ?_) | exact HR405_2.out)) hb)
       have n8_ := Aside0.mk (Kd.C_below (by repeat (first | (with_reducible exact HR406_1.out) | (with_reducible refine Kd.C_alloc ?_ _) | (with_reducible refine Kd.C_drewN ?_ _) | (with_reducible refine Kd.C_drew ?_) | exact HR406_1.out)) hb)
       have n9_ := Aside0.mk (Kd.C_below (by repeat (first | (with_reducible exact HR406_2.out) | (with_reducible refine Kd.C_alloc ?_ _) | (with_reducible refine Kd.C_drewN ?_ _) | (with_reducible refine Kd.C_drew ?_) | exact HR406_2.out)) hb)
       have n10_ := Aside0.mk (below_step (zB11_0) hb)
       clear HO_3 HO_4 HL405_1 HL405_2 HL406_1 HL406_2 HR405_1 HR405_2 HR406_1 HR406_2 HB
       have HO_3 := n0_
       have HO_4 := n1_
       have HL405_1 := n2_
       have HL405_2 := n3_
       have HL406_1 := n4_
       have HL406_2 := n5_
       have HR405_1 := n6_
       have HR405_2 := n7_
       have HR406_1 := n8_
       have HR406_2 := n9_
       have HB := n10_
       clear n0_ n1_ n2_ n3_ n4_ n5_ n6_ n7_ n8_ n9_ n10_
       (try clear hb)
       (try clear hb2)
       (try clear hk)
       (try clear hi)
       refine hK.out _ _ ⟨HS0_, HS1_, HS2_, HS3_, HS4_, HS5_, HS6_⟩ (fun hHeld => ?_)
       clear hK K
       refine norm_ (a' := ?_) ?_ ?_
       rotate_left
       ·show Act.put _ (some 91) _ = _
        simp only [Act.put, List.setIfInBounds_toArray, List.set_cons_zero, List.set_cons_succ, i64_w, i32_w]
        rfl
       refine pure_ (i := 44) (N := some 93) (v := ?_) (a' := ?_) zq11_45 rfl rfl (any_of HT_.out (by kernel_rfl)) (fun _ _ _ h => h) (Or.inl ⟨by rfl, ?_⟩) ?_ ?_
       rotate_left
       ·intro w'
        go_simp
        with_reducible rfl
       rotate_left
       ·exact zV11
       refine pure_ (i := 45) (N := some 94) (v := ?_) (a' := ?_) zq11_46 rfl rfl (any_of HT_.out (by kernel_rfl)) (fun _ _ _ h => h) (Or.inl ⟨by rfl, ?_⟩) ?_ ?_
       rotate_left
       ·intro w'
        go_simp
        with_reducible rfl
       rotate_left
       ·exact zV11
       refine done_ (done_of HT_.out (by kernel_rfl)) ?_
       try go_wp2
       go_ret
       exact ⟨zE11, zB11_0⟩
      rw [if_pos c43] at H
      have c43b0 : (t407 == x8_2) = true := beq_iff_eq.mpr c43
      have c43b1 : (t407 != x8_2) = false := bne_eq_false_iff_eq.mpr c43
      clear c43
      have H' := Aside0.mk H
      clear H
      obtain ⟨Ao44, co44, eo44⟩ := Kd.R_slice HO_4.out
      subst eo44
      try go_wp2
      have n0_ := Aside0.mk (Kd.S_drew HO_3.out)
      have n1_ := Aside0.mk (Kd.R_drew HO_4.out)
      have n2_ := Aside0.mk (below_drew1 HB.out)
      clear HO_3 HO_4 HB
      have HO_3 := n0_
      have HO_4 := n1_
      have HB := n2_
      clear n0_ n1_ n2_
      have p404 : 0 ≤ (x8_2 : Int) := zA11
      have q404 : x8_2 < (t388.length : Int) := zA11
      obtain ⟨ad404, e404, hx404_0⟩ := Kd.at_int (Kd.R_reads' HO_4.out).2.2 x8_2 p404 q404
      cases e404
      replace p404 := eq_true p404
      replace q404 := eq_true q404
      have p405 : 0 ≤ (x8_2 : Int) := zA11
      have q405 : x8_2 < (t385.length : Int) := zA11
      obtain ⟨ad405, A405_1, c405_1, A405_2, c405_2, e405, hx405_0, hx405_1, hx405_2, hl405_1, hi405_1, hl405_2, hi405_2⟩ := at_T45 (Kd.S_reads' HO_3.out).2.2 x8_2 p405 q405
      cases e405
      obtain ⟨ce405, hce405, hMe405, hcc405⟩ := Kd.S_get HO_3.out z45 x8_2 p405 (by first | exact q405 | exact zA11 | (have e_ := (Kd.S_reads' HO_3.out).1; omega))
      obtain ⟨ve405_1, ve405_2, rfl, ge405_1, ge405_2⟩ := k45_openM hMe405
      have hv405_1 := hcc405 1 _ rfl
      rw [add_field _ _ 1 (by omega)] at hv405_1
      replace hv405_1 := Option.some.inj (hv405_1.symm.trans hx405_1)
      rw [hv405_1] at ge405_1
      have HL405_1 := Aside0.mk (show Kd.R k52 52 _ _ _ _ ((rd_T45 t385 x8_2).f1) from ge405_1)
      clear hv405_1 ge405_1
      have hv405_2 := hcc405 2 _ rfl
      rw [add_field _ _ 2 (by omega)] at hv405_2
      replace hv405_2 := Option.some.inj (hv405_2.symm.trans hx405_2)
      rw [hv405_2] at ge405_2
      have HL405_2 := Aside0.mk (show Kd.R k56 56 _ _ _ _ ((rd_T45 t385 x8_2).f2) from ge405_2)
      clear hv405_2 ge405_2 hcc405 hce405
      have HR405_1 := Aside0.mk hi405_1
      have HC405_1 := Aside0.mk hl405_1
      clear hi405_1 hl405_1
      have HR405_2 := Aside0.mk hi405_2
      have HC405_2 := Aside0.mk hl405_2
      clear hi405_2 hl405_2
      replace p405 := eq_true p405
      replace q405 := eq_true q405
      have p406 : 0 ≤ (x8_2 : Int) := zA11
      have q406 : x8_2 < (t385.length : Int) := zA11
      obtain ⟨ad406, A406_1, c406_1, A406_2, c406_2, e406, hx406_0, hx406_1, hx406_2, hl406_1, hi406_1, hl406_2, hi406_2⟩ := at_T45 (Kd.S_reads' HO_3.out).2.2 x8_2 p406 q406
      obtain rfl : ad405 = ad406 := (by injection e406)
      obtain ⟨ce406, hce406, hMe406, hcc406⟩ := Kd.S_get HO_3.out z45 x8_2 p406 (by first | exact q406 | exact zA11 | (have e_ := (Kd.S_reads' HO_3.out).1; omega))
      obtain ⟨ve406_1, ve406_2, rfl, ge406_1, ge406_2⟩ := k45_openM hMe406
      have hv406_1 := hcc406 1 _ rfl
      rw [add_field _ _ 1 (by omega)] at hv406_1
      replace hv406_1 := Option.some.inj (hv406_1.symm.trans hx406_1)
      rw [hv406_1] at ge406_1
      have HL406_1 := Aside0.mk (show Kd.R k52 52 _ _ _ _ ((rd_T45 t385 x8_2).f1) from ge406_1)
      clear hv406_1 ge406_1
      have hv406_2 := hcc406 2 _ rfl
      rw [add_field _ _ 2 (by omega)] at hv406_2
      replace hv406_2 := Option.some.inj (hv406_2.symm.trans hx406_2)
      rw [hv406_2] at ge406_2
      have HL406_2 := Aside0.mk (show Kd.R k56 56 _ _ _ _ ((rd_T45 t385 x8_2).f2) from ge406_2)
      clear hv406_2 ge406_2 hcc406 hce406
      have HR406_1 := Aside0.mk hi406_1
      have HC406_1 := Aside0.mk hl406_1
      clear hi406_1 hl406_1
      have HR406_2 := Aside0.mk hi406_2
      have HC406_2 := Aside0.mk hl406_2
      clear hi406_2 hl406_2
      replace p406 := eq_true p406
      replace q406 := eq_true q406
      have ea_ := Option.some.inj (hx405_1.symm.trans hx406_1)
      injection ea_ with ea_ en_ ec_
      subst ea_
      subst ec_
      clear en_
      have ea_ := Option.some.inj (hx405_2.symm.trans hx406_2)
      injection ea_ with ea_ en_ ec_
      subst ea_
      subst ec_
      clear en_
      refine start_ (n := 46) (S := fun w' => w'.cell? (ad404.add (x8_2).toNat) = some (.int .i64 (rd t388 x8_2)) ∧ w'.cell? (ad405.add ((x8_2).toNat * 3)) = some (.string ((rd_T45 t385 x8_2).f0)) ∧ w'.cell? ⟨(ad405.add ((x8_2).toNat * 3)).block, (ad405.add ((x8_2).toNat * 3)).off + 1, none⟩ = some (.slice A405_1 ((rd_T45 t385 x8_2).f1).length c405_1) ∧ w'.cell? ⟨(ad405.add ((x8_2).toNat * 3)).block, (ad405.add ((x8_2).toNat * 3)).off + 2, none⟩ = some (.slice A405_2 ((rd_T45 t385 x8_2).f2).length c405_2) ∧ w'.cell? (ad405.add ((x8_2).toNat * 3)) = some (.string ((rd_T45 t385 x8_2).f0)) ∧ w'.cell? ⟨(ad405.add ((x8_2).toNat * 3)).block, (ad405.add ((x8_2).toNat * 3)).off + 1, none⟩ = some (.slice A405_1 ((rd_T45 t385 x8_2).f1).length c405_1) ∧ w'.cell? ⟨(ad405.add ((x8_2).toNat * 3)).block, (ad405.add ((x8_2).toNat * 3)).off + 2, none⟩ = some (.slice A405_2 ((rd_T45 t385 x8_2).f2).length c405_2)) (ds := []) zq11_0 (by kernel_rfl) rfl rfl ⟨hx404_0, hx405_0, hx405_1, hx405_2, hx406_0, hx406_1, hx406_2⟩ (fun hHeld => ?_); refine with_tabW laws_FnLayouts.tab14 laws_FnLayouts.bits14 (fun HT_ HW_ => ?_)
      generalize wr.drew = w45 at HO_3 HO_4 HB HL405_1 HL405_2 HL406_1 HL406_2 HR405_1 HR405_2 HR406_1 HR406_2 hx404_0 hx405_0 hx405_1 hx405_2 hx406_0 hx406_1 hx406_2 hHeld ⊢
      refine pure_ (i := 0) (N := some 49) (v := ?_) (a' := ?_) zq11_1 rfl rfl (any_of HT_.out (by kernel_rfl)) (fun _ _ _ h => h) (Or.inl ⟨by rfl, ?_⟩) ?_ ?_
      rotate_left
      ·intro w'
       go_simp
       with_reducible rfl
      rotate_left
      ·exact zV11
      refine pure_ (i := 1) (N := some 50) (v := ?_) (a' := ?_) zq11_2 rfl rfl (any_of HT_.out (by kernel_rfl)) (fun _ _ _ h => h) (Or.inl ⟨by rfl, ?_⟩) ?_ ?_
      rotate_left
      ·intro w'
       go_simp
       with_reducible rfl
      rotate_left
      ·exact zV11
      refine pure_ (i := 2) (N := some 51) (v := ?_) (a' := ?_) zq11_3 rfl rfl (any_of HT_.out (by kernel_rfl)) (fun _ _ _ h => h) (Or.inl ⟨by rfl, ?_⟩) ?_ ?_
      rotate_left
      ·intro w'
       go_simp
       with_reducible rfl
      rotate_left
      ·exact zV11
      refine pure_ (i := 4) (N := some 53) (v := ?_) (a' := ?_) zq11_4 rfl rfl (any_of HT_.out (by kernel_rfl)) (fun _ _ _ h => h) (Or.inl ⟨by rfl, ?_⟩) ?_ ?_
      rotate_left
      ·intro w'
       go_simp
       with_reducible rfl
      rotate_left
      ·exact zV11
      refine pure_ (i := 5) (N := some 54) (v := ?_) (a' := ?_) zq11_5 rfl rfl (any_of HT_.out (by kernel_rfl)) (fun _ _ _ h => h) (Or.inl ⟨by rfl, ?_⟩) ?_ ?_
      rotate_left
      ·intro w'
       go_simp
       with_reducible rfl
      rotate_left
      ·exact zV11
      refine pure_ (i := 6) (N := some 55) (v := ?_) (a' := ?_) zq11_6 rfl rfl (any_of HT_.out (by kernel_rfl)) (fun _ _ _ h => h) (Or.inl ⟨by rfl, ?_⟩) ?_ ?_
      rotate_left
      ·intro w'
       go_simp
       with_reducible rfl
      rotate_left
      ·exact zV11
      refine pure_ (i := 7) (N := some 56) (v := ?_) (a' := ?_) zq11_7 rfl rfl (any_of HT_.out (by kernel_rfl)) (fun _ _ _ h => h) (Or.inl ⟨by rfl, ?_⟩) ?_ ?_
      rotate_left
      ·intro w'
       go_simp
       with_reducible rfl
      rotate_left
      ·exact zV11
      refine pure_ (i := 11) (N := some 60) (v := ?_) (a' := ?_) zq11_8 rfl rfl (any_of HT_.out (by kernel_rfl)) (fun _ _ _ h => h) (Or.inl ⟨by rfl, ?_⟩) ?_ ?_
      rotate_left
      ·intro w'
       go_simp
       with_reducible rfl
      rotate_left
      ·exact zV11
      refine take_ (i := 3) (N := some 52) (v := ?_) (a' := ?_) zq11_9 rfl rfl (take_ofW HT_.out HW_.out (by kernel_rfl)) (fun _ _ _ h => h) (Or.inl ⟨by rfl, ?_⟩) hHeld ?_ ?_
      rotate_left
      ·rintro w' ⟨s0, s1, s2, s3, s4, s5, s6⟩
       go_simp
       with_reducible rfl
      rotate_left
      ·exact zV11
      refine take_ (i := 8) (N := some 57) (v := ?_) (a' := ?_) zq11_10 rfl rfl (take_ofW HT_.out HW_.out (by kernel_rfl)) (fun _ _ _ h => h) (Or.inl ⟨by rfl, ?_⟩) hHeld ?_ ?_
      rotate_left
      ·rintro w' ⟨s0, s1, s2, s3, s4, s5, s6⟩
       go_simp
       with_reducible rfl
      rotate_left
      ·exact zV11
      refine pure_ (i := 9) (N := some 58) (v := ?_) (a' := ?_) zq11_11 rfl rfl (any_of HT_.out (by kernel_rfl)) (fun _ _ _ h => h) (Or.inl ⟨by rfl, ?_⟩) ?_ ?_
      rotate_left
      ·intro w'
       go_simp
       with_reducible rfl
      rotate_left
      ·exact zV11
      refine pure_ (i := 10) (N := some 59) (v := ?_) (a' := ?_) zq11_12 rfl rfl (any_of HT_.out (by kernel_rfl)) (fun _ _ _ h => h) (Or.inl ⟨by rfl, ?_⟩) ?_ ?_
      rotate_left
      ·intro w'
       go_simp
       with_reducible rfl
      rotate_left
      ·exact zV11
      refine pure_ (i := 12) (N := some 61) (v := ?_) (a' := ?_) zq11_13 rfl rfl (any_of HT_.out (by kernel_rfl)) (fun _ _ _ h => h) (Or.inl ⟨by rfl, ?_⟩) ?_ ?_
      rotate_left
      ·intro w'
       go_simp
       with_reducible rfl
      rotate_left
      ·exact zV11
      refine pure_ (i := 13) (N := some 62) (v := ?_) (a' := ?_) zq11_14 rfl rfl (any_of HT_.out (by kernel_rfl)) (fun _ _ _ h => h) (Or.inl ⟨by rfl, ?_⟩) ?_ ?_
      rotate_left
      ·intro w'
       go_simp
       with_reducible rfl
      rotate_left
      ·exact zV11
      refine pure_ (i := 14) (N := some 63) (v := ?_) (a' := ?_) zq11_15 rfl rfl (any_of HT_.out (by kernel_rfl)) (fun _ _ _ h => h) (Or.inl ⟨by rfl, ?_⟩) ?_ ?_
      rotate_left
      ·intro w'
       go_simp
       with_reducible rfl
      rotate_left
      ·exact zV11
      refine pure_ (i := 15) (N := some 64) (v := ?_) (a' := ?_) zq11_16 rfl rfl (any_of HT_.out (by kernel_rfl)) (fun _ _ _ h => h) (Or.inl ⟨by rfl, ?_⟩) ?_ ?_
      rotate_left
      ·intro w'
       go_simp
       with_reducible rfl
      rotate_left
      ·exact zV11
      refine pure_ (i := 16) (N := some 65) (v := ?_) (a' := ?_) zq11_17 rfl rfl (any_of HT_.out (by kernel_rfl)) (fun _ _ _ h => h) (Or.inl ⟨by rfl, ?_⟩) ?_ ?_
      rotate_left
      ·intro w'
       go_simp
       with_reducible rfl
      rotate_left
      ·exact zV11
      refine pure_ (i := 17) (N := some 66) (v := ?_) (a' := ?_) zq11_18 rfl rfl (any_of HT_.out (by kernel_rfl)) (fun _ _ _ h => h) (Or.inl ⟨by rfl, ?_⟩) ?_ ?_
      rotate_left
      ·intro w'
       go_simp
       with_reducible rfl
      rotate_left
      ·exact zV11
      refine pure_ (i := 18) (N := some 67) (v := ?_) (a' := ?_) zq11_19 rfl rfl (any_of HT_.out (by kernel_rfl)) (fun _ _ _ h => h) (Or.inl ⟨by rfl, ?_⟩) ?_ ?_
      rotate_left
      ·intro w'
       go_simp
       with_reducible rfl
      rotate_left
      ·exact zV11
      refine pure_ (i := 19) (N := some 68) (v := ?_) (a' := ?_) zq11_20 rfl rfl (any_of HT_.out (by kernel_rfl)) (fun _ _ _ h => h) (Or.inl ⟨by rfl, ?_⟩) ?_ ?_
      rotate_left
      ·intro w'
       go_simp
       with_reducible rfl
      rotate_left
      ·exact zV11
      refine pure_ (i := 20) (N := some 69) (v := undef) (a' := ?_) zq11_21 rfl rfl (any_of HT_.out (by kernel_rfl)) (fun _ _ _ h => h) (Or.inr ⟨by rfl, rfl⟩) ?_ ?_
      rotate_left
      ·exact zV11
      refine pure_ (i := 21) (N := some 70) (v := undef) (a' := ?_) zq11_22 rfl rfl (any_of HT_.out (by kernel_rfl)) (fun _ _ _ h => h) (Or.inr ⟨by rfl, rfl⟩) ?_ ?_
      rotate_left
      ·exact zV11
      refine pure_ (i := 22) (N := some 71) (v := undef) (a' := ?_) zq11_23 rfl rfl (any_of HT_.out (by kernel_rfl)) (fun _ _ _ h => h) (Or.inr ⟨by rfl, rfl⟩) ?_ ?_
      rotate_left
      ·exact zV11
      refine pure_ (i := 23) (N := some 72) (v := undef) (a' := ?_) zq11_24 rfl rfl (any_of HT_.out (by kernel_rfl)) (fun _ _ _ h => h) (Or.inr ⟨by rfl, rfl⟩) ?_ ?_
      rotate_left
      ·exact zV11
      refine pure_ (i := 24) (N := some 73) (v := undef) (a' := ?_) zq11_25 rfl rfl (any_of HT_.out (by kernel_rfl)) (fun _ _ _ h => h) (Or.inr ⟨by rfl, rfl⟩) ?_ ?_
      rotate_left
      ·exact zV11
      refine pure_ (i := 25) (N := some 74) (v := undef) (a' := ?_) zq11_26 rfl rfl (any_of HT_.out (by kernel_rfl)) (fun _ _ _ h => h) (Or.inr ⟨by rfl, rfl⟩) ?_ ?_
      rotate_left
      ·exact zV11
      refine pure_ (i := 26) (N := some 75) (v := undef) (a' := ?_) zq11_27 rfl rfl (any_of HT_.out (by kernel_rfl)) (fun _ _ _ h => h) (Or.inr ⟨by rfl, rfl⟩) ?_ ?_
      rotate_left
      ·exact zV11
      refine pure_ (i := 27) (N := some 76) (v := undef) (a' := ?_) zq11_28 rfl rfl (any_of HT_.out (by kernel_rfl)) (fun _ _ _ h => h) (Or.inr ⟨by rfl, rfl⟩) ?_ ?_
      rotate_left
      ·exact zV11
      refine pure_ (i := 28) (N := some 77) (v := undef) (a' := ?_) zq11_29 rfl rfl (any_of HT_.out (by kernel_rfl)) (fun _ _ _ h => h) (Or.inr ⟨by rfl, rfl⟩) ?_ ?_
      rotate_left
      ·exact zV11
      refine pure_ (i := 29) (N := some 78) (v := undef) (a' := ?_) zq11_30 rfl rfl (any_of HT_.out (by kernel_rfl)) (fun _ _ _ h => h) (Or.inr ⟨by rfl, rfl⟩) ?_ ?_
      rotate_left
      ·exact zV11
      refine pure_ (i := 30) (N := some 79) (v := undef) (a' := ?_) zq11_31 rfl rfl (any_of HT_.out (by kernel_rfl)) (fun _ _ _ h => h) (Or.inr ⟨by rfl, rfl⟩) ?_ ?_
      rotate_left
      ·exact zV11
      refine pure_ (i := 31) (N := some 80) (v := undef) (a' := ?_) zq11_32 rfl rfl (any_of HT_.out (by kernel_rfl)) (fun _ _ _ h => h) (Or.inr ⟨by rfl, rfl⟩) ?_ ?_
      rotate_left
      ·exact zV11
      refine pure_ (i := 32) (N := some 81) (v := undef) (a' := ?_) zq11_33 rfl rfl (any_of HT_.out (by kernel_rfl)) (fun _ _ _ h => h) (Or.inr ⟨by rfl, rfl⟩) ?_ ?_
      rotate_left
      ·exact zV11
      refine pure_ (i := 33) (N := some 82) (v := ?_) (a' := ?_) zq11_34 rfl rfl (any_of HT_.out (by kernel_rfl)) (fun _ _ _ h => h) (Or.inl ⟨by rfl, ?_⟩) ?_ ?_
      rotate_left
      ·intro w'
       go_simp
       with_reducible rfl
      rotate_left
      ·exact zV11
      refine pure_ (i := 34) (N := some 83) (v := ?_) (a' := ?_) zq11_35 rfl rfl (any_of HT_.out (by kernel_rfl)) (fun _ _ _ h => h) (Or.inl ⟨by rfl, ?_⟩) ?_ ?_
      rotate_left
      ·intro w'
       go_simp
       with_reducible rfl
      rotate_left
      ·exact zV11
      refine pure_ (i := 35) (N := some 84) (v := ?_) (a' := ?_) zq11_36 rfl rfl (any_of HT_.out (by kernel_rfl)) (fun _ _ _ h => h) (Or.inl ⟨by rfl, ?_⟩) ?_ ?_
      rotate_left
      ·intro w'
       go_simp
       with_reducible rfl
      rotate_left
      ·exact zV11
      refine pure_ (i := 36) (N := some 85) (v := ?_) (a' := ?_) zq11_37 rfl rfl (any_of HT_.out (by kernel_rfl)) (fun _ _ _ h => h) (Or.inl ⟨by rfl, ?_⟩) ?_ ?_
      rotate_left
      ·intro w'
       go_simp
       with_reducible rfl
      rotate_left
      ·exact zV11
      refine pure_ (i := 37) (N := some 86) (v := ?_) (a' := ?_) zq11_38 rfl rfl (any_of HT_.out (by kernel_rfl)) (fun _ _ _ h => h) (Or.inl ⟨by rfl, ?_⟩) ?_ ?_
      rotate_left
      ·intro w'
       go_simp
       with_reducible rfl
      rotate_left
      ·exact zV11
      refine pure_ (i := 38) (N := some 87) (v := ?_) (a' := ?_) zq11_39 rfl rfl (any_of HT_.out (by kernel_rfl)) (fun _ _ _ h => h) (Or.inl ⟨by rfl, ?_⟩) ?_ ?_
      rotate_left
      ·intro w'
       go_simp
       with_reducible rfl
      rotate_left
      ·exact zV11
      refine pure_ (i := 39) (N := some 88) (v := ?_) (a' := ?_) zq11_40 rfl rfl (any_of HT_.out (by kernel_rfl)) (fun _ _ _ h => h) (Or.inl ⟨by rfl, ?_⟩) ?_ ?_
      rotate_left
      ·intro w'
       go_simp
       with_reducible rfl
      rotate_left
      ·exact zV11
      refine pure_ (i := 40) (N := some 89) (v := ?_) (a' := ?_) zq11_41 rfl rfl (any_of HT_.out (by kernel_rfl)) (fun _ _ _ h => h) (Or.inl ⟨by rfl, ?_⟩) ?_ ?_
      rotate_left
      ·intro w'
       go_simp
       with_reducible rfl
      rotate_left
      ·exact zV11
      refine pure_ (i := 43) (N := some 92) (v := ?_) (a' := ?_) zq11_55 rfl rfl (any_of HT_.out (by kernel_rfl)) (fun _ _ _ h => h) (Or.inl ⟨by rfl, ?_⟩) ?_ ?_
      rotate_left
      ·intro w'
       go_simp
       with_reducible rfl
      rotate_left
      ·exact zV11
      refine take_ (i := 41) (N := some 90) (v := ?_) (a' := ?_) zq11_56 rfl rfl (take_ofW HT_.out HW_.out (by kernel_rfl)) (fun _ _ _ h => h) (Or.inl ⟨by rfl, ?_⟩) hHeld ?_ ?_
      rotate_left
      ·rintro w' ⟨s0, s1, s2, s3, s4, s5, s6⟩
       go_simp
       with_reducible rfl
      rotate_left
      ·exact zV11
      refine one_ (i := 42) (N := some 91) zq11_44 rfl rfl (one_of HT_.out (by kernel_rfl)) (by decide) (fun K hK => ?_)
      refine goes_ Try.func39 (by kernel_rfl) rfl #[.slice (some ad405) t385.length co9, .string ((rd_T45 t385 x8_2).f0)] (by rfl) rfl rfl zT11 ?_
      with_reducible refine (impl_PartAt.calls _ _ t385 ((rd_T45 t385 x8_2).f0) t407 _ ?side1 ?side2 A42.out).mono ?_
      (case side1 => exact zC11 (Kd.S_reads' HO_3.out).2.2)
      (case side2 => exact (Kd.S_reads' HO_3.out).2.1)
      rintro e w46 ⟨rfl, hb⟩
      have HS0_ := (hb.cell (World.block_lt_of_cell? _ _ (hHeld.1))).trans (hHeld.1)
      have HS1_ := (hb.cell (World.block_lt_of_cell? _ _ (hHeld.2.1))).trans (hHeld.2.1)
      have HS2_ := (hb.cell (World.block_lt_of_cell? _ _ (hHeld.2.2.1))).trans (hHeld.2.2.1)
      have HS3_ := (hb.cell (World.block_lt_of_cell? _ _ (hHeld.2.2.2.1))).trans (hHeld.2.2.2.1)
      have HS4_ := (hb.cell (World.block_lt_of_cell? _ _ (hHeld.2.2.2.2.1))).trans (hHeld.2.2.2.2.1)
      have HS5_ := (hb.cell (World.block_lt_of_cell? _ _ (hHeld.2.2.2.2.2.1))).trans (hHeld.2.2.2.2.2.1)
      have HS6_ := (hb.cell (World.block_lt_of_cell? _ _ (hHeld.2.2.2.2.2.2))).trans (hHeld.2.2.2.2.2.2)
      refine ⟨_, rfl, ?_⟩
      have n0_ := Aside0.mk (Kd.S_below (by (with_reducible repeat (first | apply Kd.S_alloc | apply Kd.S_drewN | apply Kd.S_drew)); exact HO_3.out) hb)
      have n1_ := Aside0.mk (Kd.R_below (zR11 HO_4.out) hb)
      have n2_ := Aside0.mk (Kd.R_below (zR11 HL405_1.out) hb)
      have n3_ := Aside0.mk (Kd.R_below (zR11 HL405_2.out) hb)
      have n4_ := Aside0.mk (Kd.R_below (zR11 HL406_1.out) hb)
      have n5_ := Aside0.mk (Kd.R_below (zR11 HL406_2.out) hb)
      have n6_ := Aside0.mk (Kd.C_below (by repeat (first | (with_reducible exact HR405_1.out) | (with_reducible refine Kd.C_alloc ?_ _) | (with_reducible refine Kd.C_drewN ?_ _) | (with_reducible refine Kd.C_drew ?_) | exact HR405_1.out)) hb)
      have n7_ := Aside0.mk (Kd.C_below (by repeat (first | (with_reducible exact HR405_2.out) | (with_reducible refine Kd.C_alloc ?_ _) | (with_reducible refine Kd.C_drewN ?_ _) | (with_reducible refine Kd.C_drew ?_) | exact HR405_2.out)) hb)
      have n8_ := Aside0.mk (Kd.C_below (by repeat (first | (with_reducible exact HR406_1.out) | (with_reducible refine Kd.C_alloc ?_ _) | (with_reducible refine Kd.C_drewN ?_ _) | (with_reducible refine Kd.C_drew ?_) | exact HR406_1.out)) hb)
      have n9_ := Aside0.mk (Kd.C_below (by repeat (first | (with_reducible exact HR406_2.out) | (with_reducible refine Kd.C_alloc ?_ _) | (with_reducible refine Kd.C_drewN ?_ _) | (with_reducible refine Kd.C_drew ?_) | exact HR406_2.out)) hb)
      have n10_ := Aside0.mk (below_step (zB11_0) hb)
      clear HO_3 HO_4 HL405_1 HL405_2 HL406_1 HL406_2 HR405_1 HR405_2 HR406_1 HR406_2 HB
      have HO_3 := n0_
      have HO_4 := n1_
      have HL405_1 := n2_
      have HL405_2 := n3_
      have HL406_1 := n4_
      have HL406_2 := n5_
      have HR405_1 := n6_
      have HR405_2 := n7_
      have HR406_1 := n8_
      have HR406_2 := n9_
      have HB := n10_
      clear n0_ n1_ n2_ n3_ n4_ n5_ n6_ n7_ n8_ n9_ n10_
      (try clear hb)
      (try clear hb2)
      (try clear hk)
      (try clear hi)
      refine hK.out _ _ ⟨HS0_, HS1_, HS2_, HS3_, HS4_, HS5_, HS6_⟩ (fun hHeld => ?_)
      clear hK K
      refine norm_ (a' := ?_) ?_ ?_
      rotate_left
      ·show Act.put _ (some 91) _ = _
       simp only [Act.put, List.setIfInBounds_toArray, List.set_cons_zero, List.set_cons_succ, i64_w, i32_w]
       rfl
      refine pure_ (i := 44) (N := some 93) (v := ?_) (a' := ?_) zq11_45 rfl rfl (any_of HT_.out (by kernel_rfl)) (fun _ _ _ h => h) (Or.inl ⟨by rfl, ?_⟩) ?_ ?_
      rotate_left
      ·intro w'
       go_simp
       with_reducible rfl
      rotate_left
      ·exact zV11
      refine pure_ (i := 45) (N := some 94) (v := ?_) (a' := ?_) zq11_46 rfl rfl (any_of HT_.out (by kernel_rfl)) (fun _ _ _ h => h) (Or.inl ⟨by rfl, ?_⟩) ?_ ?_
      rotate_left
      ·intro w'
       go_simp
       with_reducible rfl
      rotate_left
      ·exact zV11
      refine done_ (done_of HT_.out (by kernel_rfl)) ?_
      try go_wp2
      go_roundg k2
      case measure => have := HJ6.out; have := HK2.out; omega
      case rel => exact ⟨(wrap64 (x8_2 + 1)), (by first | rfl | (simp; done) | (simp [*]; done)), H', ⟨by have := HJ6.out; have := HK2.out; omega⟩, ⟨by (with_reducible repeat (first | apply Kd.S_alloc | apply Kd.S_drewN | apply Kd.S_drew)); exact HO_3.out⟩, ⟨zR11 HO_4.out⟩, ⟨zB11_0⟩⟩
     rw [if_pos c18] at H
     have c18b0 : decide ((wrap64 (x8_2 + 1)) < (t388.length : Int)) = true := decide_eq_true c18
     clear c18
     obtain ⟨ji19, hji19⟩ : ∃ j_ : Int, (wrap64 (x8_2 + 1)) = j_ := ⟨_, rfl⟩
     replace H : (if 0 ≤ (ji19) then (if 0 ≤ x8_2 then (if x8_2 < (t385.length : Int) then (if (wrap64 ((rd t388 x8_2) + (((rd_T45 t385 x8_2).f1).length : Int))) > (rd t388 (ji19)) then (some false) else (if (wrap64 ((rd t388 x8_2) + (((rd_T45 t385 x8_2).f1).length : Int))) = (rd t388 (ji19)) then ((impl_PartAt.f t385 ((rd_T45 t385 x8_2).f0)).bind fun t403 => (if t403 = x8_2 then (laws_FnLayouts.l0 k2 t385 t388 t389 ji19) else (some false))) else (some false))) else (none)) else (none)) else (none)) = some r := by first | (rw [hji19] at H; exact H) | (simp only [hji19] at H ⊢; exact H)
     (try rw [hji19] at c18b0)
     have hji19w : (IntKind.i64.wrap (x8_2 + 1)) = ji19 := (i64_w _).trans hji19
     by_cases c20 : 0 ≤ (ji19)
     rotate_left
     ·rw [if_neg c20] at H
      exact absurd H (by simp)
     rw [if_pos c20] at H
     have c20b0 : decide (0 ≤ (ji19)) = true := decide_eq_true c20
     clear c20
     by_cases c21 : 0 ≤ x8_2
     rotate_left
     ·rw [if_neg c21] at H
      exact absurd H (by simp)
     rw [if_pos c21] at H
     have c21b0 : decide (0 ≤ x8_2) = true := decide_eq_true c21
     clear c21
     by_cases c22 : x8_2 < (t385.length : Int)
     rotate_left
     ·rw [if_neg c22] at H
      exact absurd H (by simp)
     rw [if_pos c22] at H
     have c22b0 : decide (x8_2 < (t385.length : Int)) = true := decide_eq_true c22
     clear c22
     by_cases c23 : (wrap64 ((rd t388 x8_2) + (((rd_T45 t385 x8_2).f1).length : Int))) > (rd t388 (ji19))
     ·rw [if_pos c23] at H
      have c23b0 : decide ((rd t388 (ji19)) < (wrap64 ((rd t388 x8_2) + (((rd_T45 t385 x8_2).f1).length : Int)))) = true := decide_eq_true c23
      clear c23
      obtain rfl := Option.some.inj H
      obtain ⟨Ao24, co24, eo24⟩ := Kd.R_slice HO_4.out
      subst eo24
      have p397 : 0 ≤ ((ji19) : Int) := zA11
      have q397 : (ji19) < (t388.length : Int) := zA11
      obtain ⟨ad397, e397, hx397_0⟩ := Kd.at_int (Kd.R_reads' HO_4.out).2.2 (ji19) p397 q397
      cases e397
      replace p397 := eq_true p397
      replace q397 := eq_true q397
      try go_wp2
      have n0_ := Aside0.mk (Kd.S_drew HO_3.out)
      have n1_ := Aside0.mk (Kd.R_drew HO_4.out)
      have n2_ := Aside0.mk (below_drew1 HB.out)
      clear HO_3 HO_4 HB
      have HO_3 := n0_
      have HO_4 := n1_
      have HB := n2_
      clear n0_ n1_ n2_
      have p398 : 0 ≤ (x8_2 : Int) := zA11
      have q398 : x8_2 < (t388.length : Int) := zA11
      obtain ⟨ad398, e398, hx398_0⟩ := Kd.at_int (Kd.R_reads' HO_4.out).2.2 x8_2 p398 q398
      obtain rfl : ad397 = ad398 := (by injection e398)
      replace p398 := eq_true p398
      replace q398 := eq_true q398
      have p399 : 0 ≤ (x8_2 : Int) := zA11
      have q399 : x8_2 < (t385.length : Int) := zA11
      obtain ⟨ad399, A399_1, c399_1, A399_2, c399_2, e399, hx399_0, hx399_1, hx399_2, hl399_1, hi399_1, hl399_2, hi399_2⟩ := at_T45 (Kd.S_reads' HO_3.out).2.2 x8_2 p399 q399
      cases e399
      obtain ⟨ce399, hce399, hMe399, hcc399⟩ := Kd.S_get HO_3.out z45 x8_2 p399 (by first | exact q399 | exact zA11 | (have e_ := (Kd.S_reads' HO_3.out).1; omega))
      obtain ⟨ve399_1, ve399_2, rfl, ge399_1, ge399_2⟩ := k45_openM hMe399
      have hv399_1 := hcc399 1 _ rfl
      rw [add_field _ _ 1 (by omega)] at hv399_1
      replace hv399_1 := Option.some.inj (hv399_1.symm.trans hx399_1)
      rw [hv399_1] at ge399_1
      have HL399_1 := Aside0.mk (show Kd.R k52 52 _ _ _ _ ((rd_T45 t385 x8_2).f1) from ge399_1)
      clear hv399_1 ge399_1
      have hv399_2 := hcc399 2 _ rfl
      rw [add_field _ _ 2 (by omega)] at hv399_2
      replace hv399_2 := Option.some.inj (hv399_2.symm.trans hx399_2)
      rw [hv399_2] at ge399_2
      have HL399_2 := Aside0.mk (show Kd.R k56 56 _ _ _ _ ((rd_T45 t385 x8_2).f2) from ge399_2)
      clear hv399_2 ge399_2 hcc399 hce399
      have HR399_1 := Aside0.mk hi399_1
      have HC399_1 := Aside0.mk hl399_1
      clear hi399_1 hl399_1
      have HR399_2 := Aside0.mk hi399_2
      have HC399_2 := Aside0.mk hl399_2
      clear hi399_2 hl399_2
      replace p399 := eq_true p399
      replace q399 := eq_true q399
      refine start_ (n := 46) (S := fun w' => w'.cell? (ad397.add (x8_2).toNat) = some (.int .i64 (rd t388 x8_2)) ∧ w'.cell? (ad399.add ((x8_2).toNat * 3)) = some (.string ((rd_T45 t385 x8_2).f0)) ∧ w'.cell? ⟨(ad399.add ((x8_2).toNat * 3)).block, (ad399.add ((x8_2).toNat * 3)).off + 1, none⟩ = some (.slice A399_1 ((rd_T45 t385 x8_2).f1).length c399_1) ∧ w'.cell? ⟨(ad399.add ((x8_2).toNat * 3)).block, (ad399.add ((x8_2).toNat * 3)).off + 2, none⟩ = some (.slice A399_2 ((rd_T45 t385 x8_2).f2).length c399_2)) (ds := []) zq11_0 (by kernel_rfl) rfl rfl ⟨hx398_0, hx399_0, hx399_1, hx399_2⟩ (fun hHeld => ?_); refine with_tabW laws_FnLayouts.tab14 laws_FnLayouts.bits14 (fun HT_ HW_ => ?_)
      generalize wr.drew = w25 at HO_3 HO_4 HB HL399_1 HL399_2 HR399_1 HR399_2 hx398_0 hx399_0 hx399_1 hx399_2 hHeld ⊢
      refine pure_ (i := 0) (N := some 49) (v := ?_) (a' := ?_) zq11_1 rfl rfl (any_of HT_.out (by kernel_rfl)) (fun _ _ _ h => h) (Or.inl ⟨by rfl, ?_⟩) ?_ ?_
      rotate_left
      ·intro w'
       go_simp
       with_reducible rfl
      rotate_left
      ·exact zV11
      refine pure_ (i := 1) (N := some 50) (v := ?_) (a' := ?_) zq11_2 rfl rfl (any_of HT_.out (by kernel_rfl)) (fun _ _ _ h => h) (Or.inl ⟨by rfl, ?_⟩) ?_ ?_
      rotate_left
      ·intro w'
       go_simp
       with_reducible rfl
      rotate_left
      ·exact zV11
      refine pure_ (i := 2) (N := some 51) (v := ?_) (a' := ?_) zq11_3 rfl rfl (any_of HT_.out (by kernel_rfl)) (fun _ _ _ h => h) (Or.inl ⟨by rfl, ?_⟩) ?_ ?_
      rotate_left
      ·intro w'
       go_simp
       with_reducible rfl
      rotate_left
      ·exact zV11
      refine pure_ (i := 4) (N := some 53) (v := ?_) (a' := ?_) zq11_4 rfl rfl (any_of HT_.out (by kernel_rfl)) (fun _ _ _ h => h) (Or.inl ⟨by rfl, ?_⟩) ?_ ?_
      rotate_left
      ·intro w'
       go_simp
       with_reducible rfl
      rotate_left
      ·exact zV11
      refine pure_ (i := 5) (N := some 54) (v := ?_) (a' := ?_) zq11_5 rfl rfl (any_of HT_.out (by kernel_rfl)) (fun _ _ _ h => h) (Or.inl ⟨by rfl, ?_⟩) ?_ ?_
      rotate_left
      ·intro w'
       go_simp
       with_reducible rfl
      rotate_left
      ·exact zV11
      refine pure_ (i := 6) (N := some 55) (v := ?_) (a' := ?_) zq11_6 rfl rfl (any_of HT_.out (by kernel_rfl)) (fun _ _ _ h => h) (Or.inl ⟨by rfl, ?_⟩) ?_ ?_
      rotate_left
      ·intro w'
       go_simp
       with_reducible rfl
      rotate_left
      ·exact zV11
      refine pure_ (i := 7) (N := some 56) (v := ?_) (a' := ?_) zq11_7 rfl rfl (any_of HT_.out (by kernel_rfl)) (fun _ _ _ h => h) (Or.inl ⟨by rfl, ?_⟩) ?_ ?_
      rotate_left
      ·intro w'
       go_simp
       with_reducible rfl
      rotate_left
      ·exact zV11
      refine pure_ (i := 11) (N := some 60) (v := ?_) (a' := ?_) zq11_8 rfl rfl (any_of HT_.out (by kernel_rfl)) (fun _ _ _ h => h) (Or.inl ⟨by rfl, ?_⟩) ?_ ?_
      rotate_left
      ·intro w'
       go_simp
       with_reducible rfl
      rotate_left
      ·exact zV11
      refine take_ (i := 3) (N := some 52) (v := ?_) (a' := ?_) zq11_9 rfl rfl (take_ofW HT_.out HW_.out (by kernel_rfl)) (fun _ _ _ h => h) (Or.inl ⟨by rfl, ?_⟩) hHeld ?_ ?_
      rotate_left
      ·rintro w' ⟨s0, s1, s2, s3⟩
       go_simp
       with_reducible rfl
      rotate_left
      ·exact zV11
      refine take_ (i := 8) (N := some 57) (v := ?_) (a' := ?_) zq11_10 rfl rfl (take_ofW HT_.out HW_.out (by kernel_rfl)) (fun _ _ _ h => h) (Or.inl ⟨by rfl, ?_⟩) hHeld ?_ ?_
      rotate_left
      ·rintro w' ⟨s0, s1, s2, s3⟩
       go_simp
       with_reducible rfl
      rotate_left
      ·exact zV11
      refine pure_ (i := 9) (N := some 58) (v := ?_) (a' := ?_) zq11_11 rfl rfl (any_of HT_.out (by kernel_rfl)) (fun _ _ _ h => h) (Or.inl ⟨by rfl, ?_⟩) ?_ ?_
      rotate_left
      ·intro w'
       go_simp
       with_reducible rfl
      rotate_left
      ·exact zV11
      refine pure_ (i := 10) (N := some 59) (v := ?_) (a' := ?_) zq11_12 rfl rfl (any_of HT_.out (by kernel_rfl)) (fun _ _ _ h => h) (Or.inl ⟨by rfl, ?_⟩) ?_ ?_
      rotate_left
      ·intro w'
       go_simp
       with_reducible rfl
      rotate_left
      ·exact zV11
      refine pure_ (i := 12) (N := some 61) (v := ?_) (a' := ?_) zq11_13 rfl rfl (any_of HT_.out (by kernel_rfl)) (fun _ _ _ h => h) (Or.inl ⟨by rfl, ?_⟩) ?_ ?_
      rotate_left
      ·intro w'
       go_simp
       with_reducible rfl
      rotate_left
      ·exact zV11
      refine pure_ (i := 13) (N := some 62) (v := ?_) (a' := ?_) zq11_14 rfl rfl (any_of HT_.out (by kernel_rfl)) (fun _ _ _ h => h) (Or.inl ⟨by rfl, ?_⟩) ?_ ?_
      rotate_left
      ·intro w'
       go_simp
       with_reducible rfl
      rotate_left
      ·exact zV11
      refine pure_ (i := 14) (N := some 63) (v := undef) (a' := ?_) zq11_15 rfl rfl (any_of HT_.out (by kernel_rfl)) (fun _ _ _ h => h) (Or.inr ⟨by rfl, rfl⟩) ?_ ?_
      rotate_left
      ·exact zV11
      refine pure_ (i := 15) (N := some 64) (v := undef) (a' := ?_) zq11_16 rfl rfl (any_of HT_.out (by kernel_rfl)) (fun _ _ _ h => h) (Or.inr ⟨by rfl, rfl⟩) ?_ ?_
      rotate_left
      ·exact zV11
      refine pure_ (i := 16) (N := some 65) (v := undef) (a' := ?_) zq11_17 rfl rfl (any_of HT_.out (by kernel_rfl)) (fun _ _ _ h => h) (Or.inr ⟨by rfl, rfl⟩) ?_ ?_
      rotate_left
      ·exact zV11
      refine pure_ (i := 17) (N := some 66) (v := undef) (a' := ?_) zq11_18 rfl rfl (any_of HT_.out (by kernel_rfl)) (fun _ _ _ h => h) (Or.inr ⟨by rfl, rfl⟩) ?_ ?_
      rotate_left
      ·exact zV11
      refine pure_ (i := 18) (N := some 67) (v := undef) (a' := ?_) zq11_19 rfl rfl (any_of HT_.out (by kernel_rfl)) (fun _ _ _ h => h) (Or.inr ⟨by rfl, rfl⟩) ?_ ?_
      rotate_left
      ·exact zV11
      refine pure_ (i := 19) (N := some 68) (v := undef) (a' := ?_) zq11_20 rfl rfl (any_of HT_.out (by kernel_rfl)) (fun _ _ _ h => h) (Or.inr ⟨by rfl, rfl⟩) ?_ ?_
      rotate_left
      ·exact zV11
      refine pure_ (i := 20) (N := some 69) (v := undef) (a' := ?_) zq11_21 rfl rfl (any_of HT_.out (by kernel_rfl)) (fun _ _ _ h => h) (Or.inr ⟨by rfl, rfl⟩) ?_ ?_
      rotate_left
      ·exact zV11
      refine pure_ (i := 21) (N := some 70) (v := undef) (a' := ?_) zq11_22 rfl rfl (any_of HT_.out (by kernel_rfl)) (fun _ _ _ h => h) (Or.inr ⟨by rfl, rfl⟩) ?_ ?_
      rotate_left
      ·exact zV11
      refine pure_ (i := 22) (N := some 71) (v := undef) (a' := ?_) zq11_23 rfl rfl (any_of HT_.out (by kernel_rfl)) (fun _ _ _ h => h) (Or.inr ⟨by rfl, rfl⟩) ?_ ?_
      rotate_left
      ·exact zV11
      refine pure_ (i := 23) (N := some 72) (v := undef) (a' := ?_) zq11_24 rfl rfl (any_of HT_.out (by kernel_rfl)) (fun _ _ _ h => h) (Or.inr ⟨by rfl, rfl⟩) ?_ ?_
      rotate_left
      ·exact zV11
      refine pure_ (i := 24) (N := some 73) (v := undef) (a' := ?_) zq11_25 rfl rfl (any_of HT_.out (by kernel_rfl)) (fun _ _ _ h => h) (Or.inr ⟨by rfl, rfl⟩) ?_ ?_
      rotate_left
      ·exact zV11
      refine pure_ (i := 25) (N := some 74) (v := undef) (a' := ?_) zq11_26 rfl rfl (any_of HT_.out (by kernel_rfl)) (fun _ _ _ h => h) (Or.inr ⟨by rfl, rfl⟩) ?_ ?_
      rotate_left
      ·exact zV11
      refine pure_ (i := 26) (N := some 75) (v := undef) (a' := ?_) zq11_27 rfl rfl (any_of HT_.out (by kernel_rfl)) (fun _ _ _ h => h) (Or.inr ⟨by rfl, rfl⟩) ?_ ?_
      rotate_left
      ·exact zV11
      refine pure_ (i := 27) (N := some 76) (v := undef) (a' := ?_) zq11_28 rfl rfl (any_of HT_.out (by kernel_rfl)) (fun _ _ _ h => h) (Or.inr ⟨by rfl, rfl⟩) ?_ ?_
      rotate_left
      ·exact zV11
      refine pure_ (i := 28) (N := some 77) (v := undef) (a' := ?_) zq11_29 rfl rfl (any_of HT_.out (by kernel_rfl)) (fun _ _ _ h => h) (Or.inr ⟨by rfl, rfl⟩) ?_ ?_
      rotate_left
      ·exact zV11
      refine pure_ (i := 29) (N := some 78) (v := undef) (a' := ?_) zq11_30 rfl rfl (any_of HT_.out (by kernel_rfl)) (fun _ _ _ h => h) (Or.inr ⟨by rfl, rfl⟩) ?_ ?_
      rotate_left
      ·exact zV11
      refine pure_ (i := 30) (N := some 79) (v := undef) (a' := ?_) zq11_31 rfl rfl (any_of HT_.out (by kernel_rfl)) (fun _ _ _ h => h) (Or.inr ⟨by rfl, rfl⟩) ?_ ?_
      rotate_left
      ·exact zV11
      refine pure_ (i := 31) (N := some 80) (v := undef) (a' := ?_) zq11_32 rfl rfl (any_of HT_.out (by kernel_rfl)) (fun _ _ _ h => h) (Or.inr ⟨by rfl, rfl⟩) ?_ ?_
      rotate_left
      ·exact zV11
      refine pure_ (i := 32) (N := some 81) (v := undef) (a' := ?_) zq11_33 rfl rfl (any_of HT_.out (by kernel_rfl)) (fun _ _ _ h => h) (Or.inr ⟨by rfl, rfl⟩) ?_ ?_
      rotate_left
      ·exact zV11
      refine pure_ (i := 33) (N := some 82) (v := undef) (a' := ?_) zq11_34 rfl rfl (any_of HT_.out (by kernel_rfl)) (fun _ _ _ h => h) (Or.inr ⟨by rfl, rfl⟩) ?_ ?_
      rotate_left
      ·exact zV11
      refine pure_ (i := 34) (N := some 83) (v := ?_) (a' := ?_) zq11_35 rfl rfl (any_of HT_.out (by kernel_rfl)) (fun _ _ _ h => h) (Or.inl ⟨by rfl, ?_⟩) ?_ ?_
      rotate_left
      ·intro w'
       go_simp
       with_reducible rfl
      rotate_left
      ·exact zV11
      refine pure_ (i := 35) (N := some 84) (v := ?_) (a' := ?_) zq11_36 rfl rfl (any_of HT_.out (by kernel_rfl)) (fun _ _ _ h => h) (Or.inl ⟨by rfl, ?_⟩) ?_ ?_
      rotate_left
      ·intro w'
       go_simp
       with_reducible rfl
      rotate_left
      ·exact zV11
      refine pure_ (i := 36) (N := some 85) (v := undef) (a' := ?_) zq11_37 rfl rfl (any_of HT_.out (by kernel_rfl)) (fun _ _ _ h => h) (Or.inr ⟨by rfl, rfl⟩) ?_ ?_
      rotate_left
      ·exact zV11
      refine pure_ (i := 37) (N := some 86) (v := undef) (a' := ?_) zq11_38 rfl rfl (any_of HT_.out (by kernel_rfl)) (fun _ _ _ h => h) (Or.inr ⟨by rfl, rfl⟩) ?_ ?_
      rotate_left
      ·exact zV11
      refine pure_ (i := 38) (N := some 87) (v := undef) (a' := ?_) zq11_39 rfl rfl (any_of HT_.out (by kernel_rfl)) (fun _ _ _ h => h) (Or.inr ⟨by rfl, rfl⟩) ?_ ?_
      rotate_left
      ·exact zV11
      refine pure_ (i := 39) (N := some 88) (v := undef) (a' := ?_) zq11_40 rfl rfl (any_of HT_.out (by kernel_rfl)) (fun _ _ _ h => h) (Or.inr ⟨by rfl, rfl⟩) ?_ ?_
      rotate_left
      ·exact zV11
      refine pure_ (i := 40) (N := some 89) (v := undef) (a' := ?_) zq11_41 rfl rfl (any_of HT_.out (by kernel_rfl)) (fun _ _ _ h => h) (Or.inr ⟨by rfl, rfl⟩) ?_ ?_
      rotate_left
      ·exact zV11
      refine pure_ (i := 41) (N := some 90) (v := undef) (a' := ?_) zq11_42 rfl rfl (any_of HT_.out (by kernel_rfl)) (fun _ _ _ h => h) (Or.inr ⟨by rfl, rfl⟩) ?_ ?_
      rotate_left
      ·exact zV11
      refine pure_ (i := 42) (N := some 91) (v := undef) (a' := ?_) zq11_43 rfl rfl (any_of HT_.out (by kernel_rfl)) (fun _ _ _ h => h) (Or.inr ⟨by rfl, rfl⟩) ?_ ?_
      rotate_left
      ·exact zV11
      refine pure_ (i := 43) (N := some 92) (v := undef) (a' := ?_) zq11_44 rfl rfl (any_of HT_.out (by kernel_rfl)) (fun _ _ _ h => h) (Or.inr ⟨by rfl, rfl⟩) ?_ ?_
      rotate_left
      ·exact zV11
      refine pure_ (i := 44) (N := some 93) (v := undef) (a' := ?_) zq11_45 rfl rfl (any_of HT_.out (by kernel_rfl)) (fun _ _ _ h => h) (Or.inr ⟨by rfl, rfl⟩) ?_ ?_
      rotate_left
      ·exact zV11
      refine pure_ (i := 45) (N := some 94) (v := ?_) (a' := ?_) zq11_46 rfl rfl (any_of HT_.out (by kernel_rfl)) (fun _ _ _ h => h) (Or.inl ⟨by rfl, ?_⟩) ?_ ?_
      rotate_left
      ·intro w'
       go_simp
       with_reducible rfl
      rotate_left
      ·exact zV11
      refine done_ (done_of HT_.out (by kernel_rfl)) ?_
      try go_wp2
      go_ret
      exact ⟨by first | rfl | (simp [errW_none, errW_some] <;> rfl) | (simp only [← hji19]; first | rfl | (simp [errW_none, errW_some] <;> rfl)) | (simp [*, errW_none, errW_some] <;> rfl), zB11_0⟩
     rw [if_neg c23] at H
     have c23b0 : decide ((rd t388 (ji19)) < (wrap64 ((rd t388 x8_2) + (((rd_T45 t385 x8_2).f1).length : Int)))) = false := decide_eq_false c23
     clear c23
     by_cases c26 : (wrap64 ((rd t388 x8_2) + (((rd_T45 t385 x8_2).f1).length : Int))) = (rd t388 (ji19))
     rotate_left
     ·rw [if_neg c26] at H
      have c26b0 : ((wrap64 ((rd t388 x8_2) + (((rd_T45 t385 x8_2).f1).length : Int))) == (rd t388 (ji19))) = false := beq_eq_false_iff_ne.mpr c26
      have c26b1 : ((wrap64 ((rd t388 x8_2) + (((rd_T45 t385 x8_2).f1).length : Int))) != (rd t388 (ji19))) = true := bne_iff_ne.mpr c26
      obtain rfl := Option.some.inj H
      obtain ⟨Ao35, co35, eo35⟩ := Kd.R_slice HO_4.out
      subst eo35
      have p397 : 0 ≤ ((ji19) : Int) := zA11
      have q397 : (ji19) < (t388.length : Int) := zA11
      obtain ⟨ad397, e397, hx397_0⟩ := Kd.at_int (Kd.R_reads' HO_4.out).2.2 (ji19) p397 q397
      cases e397
      replace p397 := eq_true p397
      replace q397 := eq_true q397
      try go_wp2
      have n0_ := Aside0.mk (Kd.S_drew HO_3.out)
      have n1_ := Aside0.mk (Kd.R_drew HO_4.out)
      have n2_ := Aside0.mk (below_drew1 HB.out)
      clear HO_3 HO_4 HB
      have HO_3 := n0_
      have HO_4 := n1_
      have HB := n2_
      clear n0_ n1_ n2_
      have p398 : 0 ≤ (x8_2 : Int) := zA11
      have q398 : x8_2 < (t388.length : Int) := zA11
      obtain ⟨ad398, e398, hx398_0⟩ := Kd.at_int (Kd.R_reads' HO_4.out).2.2 x8_2 p398 q398
      obtain rfl : ad397 = ad398 := (by injection e398)
      replace p398 := eq_true p398
      replace q398 := eq_true q398
      have p399 : 0 ≤ (x8_2 : Int) := zA11
      have q399 : x8_2 < (t385.length : Int) := zA11
      obtain ⟨ad399, A399_1, c399_1, A399_2, c399_2, e399, hx399_0, hx399_1, hx399_2, hl399_1, hi399_1, hl399_2, hi399_2⟩ := at_T45 (Kd.S_reads' HO_3.out).2.2 x8_2 p399 q399
      cases e399
      obtain ⟨ce399, hce399, hMe399, hcc399⟩ := Kd.S_get HO_3.out z45 x8_2 p399 (by first | exact q399 | exact zA11 | (have e_ := (Kd.S_reads' HO_3.out).1; omega))
      obtain ⟨ve399_1, ve399_2, rfl, ge399_1, ge399_2⟩ := k45_openM hMe399
      have hv399_1 := hcc399 1 _ rfl
      rw [add_field _ _ 1 (by omega)] at hv399_1
      replace hv399_1 := Option.some.inj (hv399_1.symm.trans hx399_1)
      rw [hv399_1] at ge399_1
      have HL399_1 := Aside0.mk (show Kd.R k52 52 _ _ _ _ ((rd_T45 t385 x8_2).f1) from ge399_1)
      clear hv399_1 ge399_1
      have hv399_2 := hcc399 2 _ rfl
      rw [add_field _ _ 2 (by omega)] at hv399_2
      replace hv399_2 := Option.some.inj (hv399_2.symm.trans hx399_2)
      rw [hv399_2] at ge399_2
      have HL399_2 := Aside0.mk (show Kd.R k56 56 _ _ _ _ ((rd_T45 t385 x8_2).f2) from ge399_2)
      clear hv399_2 ge399_2 hcc399 hce399
      have HR399_1 := Aside0.mk hi399_1
      have HC399_1 := Aside0.mk hl399_1
      clear hi399_1 hl399_1
      have HR399_2 := Aside0.mk hi399_2
      have HC399_2 := Aside0.mk hl399_2
      clear hi399_2 hl399_2
      replace p399 := eq_true p399
      replace q399 := eq_true q399
      have p400 : 0 ≤ (x8_2 : Int) := zA11
      have q400 : x8_2 < (t388.length : Int) := zA11
      obtain ⟨ad400, e400, hx400_0⟩ := Kd.at_int (Kd.R_reads' HO_4.out).2.2 x8_2 p400 q400
      obtain rfl : ad397 = ad400 := (by injection e400)
      replace p400 := eq_true p400
      replace q400 := eq_true q400
      have p401 : 0 ≤ (x8_2 : Int) := zA11
      have q401 : x8_2 < (t385.length : Int) := zA11
      obtain ⟨ad401, A401_1, c401_1, A401_2, c401_2, e401, hx401_0, hx401_1, hx401_2, hl401_1, hi401_1, hl401_2, hi401_2⟩ := at_T45 (Kd.S_reads' HO_3.out).2.2 x8_2 p401 q401
      obtain rfl : ad399 = ad401 := (by injection e401)
      obtain ⟨ce401, hce401, hMe401, hcc401⟩ := Kd.S_get HO_3.out z45 x8_2 p401 (by first | exact q401 | exact zA11 | (have e_ := (Kd.S_reads' HO_3.out).1; omega))
      obtain ⟨ve401_1, ve401_2, rfl, ge401_1, ge401_2⟩ := k45_openM hMe401
      have hv401_1 := hcc401 1 _ rfl
      rw [add_field _ _ 1 (by omega)] at hv401_1
      replace hv401_1 := Option.some.inj (hv401_1.symm.trans hx401_1)
      rw [hv401_1] at ge401_1
      have HL401_1 := Aside0.mk (show Kd.R k52 52 _ _ _ _ ((rd_T45 t385 x8_2).f1) from ge401_1)
      clear hv401_1 ge401_1
      have hv401_2 := hcc401 2 _ rfl
      rw [add_field _ _ 2 (by omega)] at hv401_2
      replace hv401_2 := Option.some.inj (hv401_2.symm.trans hx401_2)
      rw [hv401_2] at ge401_2
      have HL401_2 := Aside0.mk (show Kd.R k56 56 _ _ _ _ ((rd_T45 t385 x8_2).f2) from ge401_2)
      clear hv401_2 ge401_2 hcc401 hce401
      have HR401_1 := Aside0.mk hi401_1
      have HC401_1 := Aside0.mk hl401_1
      clear hi401_1 hl401_1
      have HR401_2 := Aside0.mk hi401_2
      have HC401_2 := Aside0.mk hl401_2
      clear hi401_2 hl401_2
      replace p401 := eq_true p401
      replace q401 := eq_true q401
      have ea_ := Option.some.inj (hx399_1.symm.trans hx401_1)
      injection ea_ with ea_ en_ ec_
      subst ea_
      subst ec_
      clear en_
      have ea_ := Option.some.inj (hx399_2.symm.trans hx401_2)
      injection ea_ with ea_ en_ ec_
      subst ea_
      subst ec_
      clear en_
      refine start_ (n := 46) (S := fun w' => w'.cell? (ad397.add (x8_2).toNat) = some (.int .i64 (rd t388 x8_2)) ∧ w'.cell? (ad399.add ((x8_2).toNat * 3)) = some (.string ((rd_T45 t385 x8_2).f0)) ∧ w'.cell? ⟨(ad399.add ((x8_2).toNat * 3)).block, (ad399.add ((x8_2).toNat * 3)).off + 1, none⟩ = some (.slice A399_1 ((rd_T45 t385 x8_2).f1).length c399_1) ∧ w'.cell? ⟨(ad399.add ((x8_2).toNat * 3)).block, (ad399.add ((x8_2).toNat * 3)).off + 2, none⟩ = some (.slice A399_2 ((rd_T45 t385 x8_2).f2).length c399_2) ∧ w'.cell? (ad397.add (x8_2).toNat) = some (.int .i64 (rd t388 x8_2)) ∧ w'.cell? (ad399.add ((x8_2).toNat * 3)) = some (.string ((rd_T45 t385 x8_2).f0)) ∧ w'.cell? ⟨(ad399.add ((x8_2).toNat * 3)).block, (ad399.add ((x8_2).toNat * 3)).off + 1, none⟩ = some (.slice A399_1 ((rd_T45 t385 x8_2).f1).length c399_1) ∧ w'.cell? ⟨(ad399.add ((x8_2).toNat * 3)).block, (ad399.add ((x8_2).toNat * 3)).off + 2, none⟩ = some (.slice A399_2 ((rd_T45 t385 x8_2).f2).length c399_2)) (ds := []) zq11_0 (by kernel_rfl) rfl rfl ⟨hx398_0, hx399_0, hx399_1, hx399_2, hx400_0, hx401_0, hx401_1, hx401_2⟩ (fun hHeld => ?_); refine with_tabW laws_FnLayouts.tab14 laws_FnLayouts.bits14 (fun HT_ HW_ => ?_)
      generalize wr.drew = w36 at HO_3 HO_4 HB HL399_1 HL399_2 HL401_1 HL401_2 HR399_1 HR399_2 HR401_1 HR401_2 hx398_0 hx399_0 hx399_1 hx399_2 hx400_0 hx401_0 hx401_1 hx401_2 hHeld ⊢
      refine pure_ (i := 0) (N := some 49) (v := ?_) (a' := ?_) zq11_1 rfl rfl (any_of HT_.out (by kernel_rfl)) (fun _ _ _ h => h) (Or.inl ⟨by rfl, ?_⟩) ?_ ?_
      rotate_left
      ·intro w'
       go_simp
       with_reducible rfl
      rotate_left
      ·exact zV11
      refine pure_ (i := 1) (N := some 50) (v := ?_) (a' := ?_) zq11_2 rfl rfl (any_of HT_.out (by kernel_rfl)) (fun _ _ _ h => h) (Or.inl ⟨by rfl, ?_⟩) ?_ ?_
      rotate_left
      ·intro w'
       go_simp
       with_reducible rfl
      rotate_left
      ·exact zV11
      refine pure_ (i := 2) (N := some 51) (v := ?_) (a' := ?_) zq11_3 rfl rfl (any_of HT_.out (by kernel_rfl)) (fun _ _ _ h => h) (Or.inl ⟨by rfl, ?_⟩) ?_ ?_
      rotate_left
      ·intro w'
       go_simp
       with_reducible rfl
      rotate_left
      ·exact zV11
      refine pure_ (i := 4) (N := some 53) (v := ?_) (a' := ?_) zq11_4 rfl rfl (any_of HT_.out (by kernel_rfl)) (fun _ _ _ h => h) (Or.inl ⟨by rfl, ?_⟩) ?_ ?_
      rotate_left
      ·intro w'
       go_simp
       with_reducible rfl
      rotate_left
      ·exact zV11
      refine pure_ (i := 5) (N := some 54) (v := ?_) (a' := ?_) zq11_5 rfl rfl (any_of HT_.out (by kernel_rfl)) (fun _ _ _ h => h) (Or.inl ⟨by rfl, ?_⟩) ?_ ?_
      rotate_left
      ·intro w'
       go_simp
       with_reducible rfl
      rotate_left
      ·exact zV11
      refine pure_ (i := 6) (N := some 55) (v := ?_) (a' := ?_) zq11_6 rfl rfl (any_of HT_.out (by kernel_rfl)) (fun _ _ _ h => h) (Or.inl ⟨by rfl, ?_⟩) ?_ ?_
      rotate_left
      ·intro w'
       go_simp
       with_reducible rfl
      rotate_left
      ·exact zV11
      refine pure_ (i := 7) (N := some 56) (v := ?_) (a' := ?_) zq11_7 rfl rfl (any_of HT_.out (by kernel_rfl)) (fun _ _ _ h => h) (Or.inl ⟨by rfl, ?_⟩) ?_ ?_
      rotate_left
      ·intro w'
       go_simp
       with_reducible rfl
      rotate_left
      ·exact zV11
      refine pure_ (i := 11) (N := some 60) (v := ?_) (a' := ?_) zq11_8 rfl rfl (any_of HT_.out (by kernel_rfl)) (fun _ _ _ h => h) (Or.inl ⟨by rfl, ?_⟩) ?_ ?_
      rotate_left
      ·intro w'
       go_simp
       with_reducible rfl
      rotate_left
      ·exact zV11
      refine take_ (i := 3) (N := some 52) (v := ?_) (a' := ?_) zq11_9 rfl rfl (take_ofW HT_.out HW_.out (by kernel_rfl)) (fun _ _ _ h => h) (Or.inl ⟨by rfl, ?_⟩) hHeld ?_ ?_
      rotate_left
      ·rintro w' ⟨s0, s1, s2, s3, s4, s5, s6, s7⟩
       go_simp
       with_reducible rfl
      rotate_left
      ·exact zV11
      refine take_ (i := 8) (N := some 57) (v := ?_) (a' := ?_) zq11_10 rfl rfl (take_ofW HT_.out HW_.out (by kernel_rfl)) (fun _ _ _ h => h) (Or.inl ⟨by rfl, ?_⟩) hHeld ?_ ?_
      rotate_left
      ·rintro w' ⟨s0, s1, s2, s3, s4, s5, s6, s7⟩
       go_simp
       with_reducible rfl
      rotate_left
      ·exact zV11
      refine pure_ (i := 9) (N := some 58) (v := ?_) (a' := ?_) zq11_11 rfl rfl (any_of HT_.out (by kernel_rfl)) (fun _ _ _ h => h) (Or.inl ⟨by rfl, ?_⟩) ?_ ?_
      rotate_left
      ·intro w'
       go_simp
       with_reducible rfl
      rotate_left
      ·exact zV11
      refine pure_ (i := 10) (N := some 59) (v := ?_) (a' := ?_) zq11_12 rfl rfl (any_of HT_.out (by kernel_rfl)) (fun _ _ _ h => h) (Or.inl ⟨by rfl, ?_⟩) ?_ ?_
      rotate_left
      ·intro w'
       go_simp
       with_reducible rfl
      rotate_left
      ·exact zV11
      refine pure_ (i := 12) (N := some 61) (v := ?_) (a' := ?_) zq11_13 rfl rfl (any_of HT_.out (by kernel_rfl)) (fun _ _ _ h => h) (Or.inl ⟨by rfl, ?_⟩) ?_ ?_
      rotate_left
      ·intro w'
       go_simp
       with_reducible rfl
      rotate_left
      ·exact zV11
      refine pure_ (i := 13) (N := some 62) (v := ?_) (a' := ?_) zq11_14 rfl rfl (any_of HT_.out (by kernel_rfl)) (fun _ _ _ h => h) (Or.inl ⟨by rfl, ?_⟩) ?_ ?_
      rotate_left
      ·intro w'
       go_simp
       with_reducible rfl
      rotate_left
      ·exact zV11
      refine pure_ (i := 14) (N := some 63) (v := ?_) (a' := ?_) zq11_15 rfl rfl (any_of HT_.out (by kernel_rfl)) (fun _ _ _ h => h) (Or.inl ⟨by rfl, ?_⟩) ?_ ?_
      rotate_left
      ·intro w'
       go_simp
       with_reducible rfl
      rotate_left
      ·exact zV11
      refine pure_ (i := 15) (N := some 64) (v := ?_) (a' := ?_) zq11_16 rfl rfl (any_of HT_.out (by kernel_rfl)) (fun _ _ _ h => h) (Or.inl ⟨by rfl, ?_⟩) ?_ ?_
      rotate_left
      ·intro w'
       go_simp
       with_reducible rfl
      rotate_left
      ·exact zV11
      refine pure_ (i := 16) (N := some 65) (v := ?_) (a' := ?_) zq11_17 rfl rfl (any_of HT_.out (by kernel_rfl)) (fun _ _ _ h => h) (Or.inl ⟨by rfl, ?_⟩) ?_ ?_
      rotate_left
      ·intro w'
       go_simp
       with_reducible rfl
      rotate_left
      ·exact zV11
      refine pure_ (i := 17) (N := some 66) (v := ?_) (a' := ?_) zq11_18 rfl rfl (any_of HT_.out (by kernel_rfl)) (fun _ _ _ h => h) (Or.inl ⟨by rfl, ?_⟩) ?_ ?_
      rotate_left
      ·intro w'
       go_simp
       with_reducible rfl
      rotate_left
      ·exact zV11
      refine pure_ (i := 18) (N := some 67) (v := ?_) (a' := ?_) zq11_19 rfl rfl (any_of HT_.out (by kernel_rfl)) (fun _ _ _ h => h) (Or.inl ⟨by rfl, ?_⟩) ?_ ?_
      rotate_left
      ·intro w'
       go_simp
       with_reducible rfl
      rotate_left
      ·exact zV11
      refine pure_ (i := 19) (N := some 68) (v := ?_) (a' := ?_) zq11_20 rfl rfl (any_of HT_.out (by kernel_rfl)) (fun _ _ _ h => h) (Or.inl ⟨by rfl, ?_⟩) ?_ ?_
      rotate_left
      ·intro w'
       go_simp
       with_reducible rfl
      rotate_left
      ·exact zV11
      refine pure_ (i := 20) (N := some 69) (v := ?_) (a' := ?_) zq11_21 rfl rfl (any_of HT_.out (by kernel_rfl)) (fun _ _ _ h => h) (Or.inl ⟨by rfl, ?_⟩) ?_ ?_
      rotate_left
      ·intro w'
       go_simp
       with_reducible rfl
      rotate_left
      ·exact zV11
      refine pure_ (i := 21) (N := some 70) (v := ?_) (a' := ?_) zq11_22 rfl rfl (any_of HT_.out (by kernel_rfl)) (fun _ _ _ h => h) (Or.inl ⟨by rfl, ?_⟩) ?_ ?_
      rotate_left
      ·intro w'
       go_simp
       with_reducible rfl
      rotate_left
      ·exact zV11
      refine pure_ (i := 22) (N := some 71) (v := ?_) (a' := ?_) zq11_23 rfl rfl (any_of HT_.out (by kernel_rfl)) (fun _ _ _ h => h) (Or.inl ⟨by rfl, ?_⟩) ?_ ?_
      rotate_left
      ·intro w'
       go_simp
       with_reducible rfl
      rotate_left
      ·exact zV11
      refine pure_ (i := 24) (N := some 73) (v := ?_) (a' := ?_) zq11_47 rfl rfl (any_of HT_.out (by kernel_rfl)) (fun _ _ _ h => h) (Or.inl ⟨by rfl, ?_⟩) ?_ ?_
      rotate_left
      ·intro w'
       go_simp
       with_reducible rfl
      rotate_left
      ·exact zV11
      refine pure_ (i := 25) (N := some 74) (v := ?_) (a' := ?_) zq11_48 rfl rfl (any_of HT_.out (by kernel_rfl)) (fun _ _ _ h => h) (Or.inl ⟨by rfl, ?_⟩) ?_ ?_
      rotate_left
      ·intro w'
       go_simp
       with_reducible rfl
      rotate_left
      ·exact zV11
      refine pure_ (i := 26) (N := some 75) (v := ?_) (a' := ?_) zq11_49 rfl rfl (any_of HT_.out (by kernel_rfl)) (fun _ _ _ h => h) (Or.inl ⟨by rfl, ?_⟩) ?_ ?_
      rotate_left
      ·intro w'
       go_simp
       with_reducible rfl
      rotate_left
      ·exact zV11
      refine pure_ (i := 27) (N := some 76) (v := ?_) (a' := ?_) zq11_50 rfl rfl (any_of HT_.out (by kernel_rfl)) (fun _ _ _ h => h) (Or.inl ⟨by rfl, ?_⟩) ?_ ?_
      rotate_left
      ·intro w'
       go_simp
       with_reducible rfl
      rotate_left
      ·exact zV11
      refine pure_ (i := 31) (N := some 80) (v := ?_) (a' := ?_) zq11_51 rfl rfl (any_of HT_.out (by kernel_rfl)) (fun _ _ _ h => h) (Or.inl ⟨by rfl, ?_⟩) ?_ ?_
      rotate_left
      ·intro w'
       go_simp
       with_reducible rfl
      rotate_left
      ·exact zV11
      refine take_ (i := 23) (N := some 72) (v := ?_) (a' := ?_) zq11_52 rfl rfl (take_ofW HT_.out HW_.out (by kernel_rfl)) (fun _ _ _ h => h) (Or.inl ⟨by rfl, ?_⟩) hHeld ?_ ?_
      rotate_left
      ·rintro w' ⟨s0, s1, s2, s3, s4, s5, s6, s7⟩
       go_simp
       with_reducible rfl
      rotate_left
      ·exact zV11
      refine take_ (i := 28) (N := some 77) (v := ?_) (a' := ?_) zq11_53 rfl rfl (take_ofW HT_.out HW_.out (by kernel_rfl)) (fun _ _ _ h => h) (Or.inl ⟨by rfl, ?_⟩) hHeld ?_ ?_
      rotate_left
      ·rintro w' ⟨s0, s1, s2, s3, s4, s5, s6, s7⟩
       go_simp
       with_reducible rfl
      rotate_left
      ·exact zV11
      refine pure_ (i := 29) (N := some 78) (v := ?_) (a' := ?_) zq11_54 rfl rfl (any_of HT_.out (by kernel_rfl)) (fun _ _ _ h => h) (Or.inl ⟨by rfl, ?_⟩) ?_ ?_
      rotate_left
      ·intro w'
       go_simp
       with_reducible rfl
      rotate_left
      ·exact zV11
      refine pure_ (i := 30) (N := some 79) (v := ?_) (a' := ?_) zq11_32 rfl rfl (any_of HT_.out (by kernel_rfl)) (fun _ _ _ h => h) (Or.inl ⟨by rfl, ?_⟩) ?_ ?_
      rotate_left
      ·intro w'
       go_simp
       with_reducible rfl
      rotate_left
      ·exact zV11
      refine pure_ (i := 32) (N := some 81) (v := ?_) (a' := ?_) zq11_33 rfl rfl (any_of HT_.out (by kernel_rfl)) (fun _ _ _ h => h) (Or.inl ⟨by rfl, ?_⟩) ?_ ?_
      rotate_left
      ·intro w'
       go_simp
       with_reducible rfl
      rotate_left
      ·exact zV11
      refine pure_ (i := 33) (N := some 82) (v := ?_) (a' := ?_) zq11_34 rfl rfl (any_of HT_.out (by kernel_rfl)) (fun _ _ _ h => h) (Or.inl ⟨by rfl, ?_⟩) ?_ ?_
      rotate_left
      ·intro w'
       go_simp
       with_reducible rfl
      rotate_left
      ·exact zV11
      refine pure_ (i := 34) (N := some 83) (v := ?_) (a' := ?_) zq11_35 rfl rfl (any_of HT_.out (by kernel_rfl)) (fun _ _ _ h => h) (Or.inl ⟨by rfl, ?_⟩) ?_ ?_
      rotate_left
      ·intro w'
       go_simp
       with_reducible rfl
      rotate_left
      ·exact zV11
      refine pure_ (i := 35) (N := some 84) (v := ?_) (a' := ?_) zq11_36 rfl rfl (any_of HT_.out (by kernel_rfl)) (fun _ _ _ h => h) (Or.inl ⟨by rfl, ?_⟩) ?_ ?_
      rotate_left
      ·intro w'
       go_simp
       with_reducible rfl
      rotate_left
      ·exact zV11
      refine pure_ (i := 36) (N := some 85) (v := undef) (a' := ?_) zq11_37 rfl rfl (any_of HT_.out (by kernel_rfl)) (fun _ _ _ h => h) (Or.inr ⟨by rfl, rfl⟩) ?_ ?_
      rotate_left
      ·exact zV11
      refine pure_ (i := 37) (N := some 86) (v := undef) (a' := ?_) zq11_38 rfl rfl (any_of HT_.out (by kernel_rfl)) (fun _ _ _ h => h) (Or.inr ⟨by rfl, rfl⟩) ?_ ?_
      rotate_left
      ·exact zV11
      refine pure_ (i := 38) (N := some 87) (v := undef) (a' := ?_) zq11_39 rfl rfl (any_of HT_.out (by kernel_rfl)) (fun _ _ _ h => h) (Or.inr ⟨by rfl, rfl⟩) ?_ ?_
      rotate_left
      ·exact zV11
      refine pure_ (i := 39) (N := some 88) (v := undef) (a' := ?_) zq11_40 rfl rfl (any_of HT_.out (by kernel_rfl)) (fun _ _ _ h => h) (Or.inr ⟨by rfl, rfl⟩) ?_ ?_
      rotate_left
      ·exact zV11
      refine pure_ (i := 40) (N := some 89) (v := undef) (a' := ?_) zq11_41 rfl rfl (any_of HT_.out (by kernel_rfl)) (fun _ _ _ h => h) (Or.inr ⟨by rfl, rfl⟩) ?_ ?_
      rotate_left
      ·exact zV11
      refine pure_ (i := 41) (N := some 90) (v := undef) (a' := ?_) zq11_42 rfl rfl (any_of HT_.out (by kernel_rfl)) (fun _ _ _ h => h) (Or.inr ⟨by rfl, rfl⟩) ?_ ?_
      rotate_left
      ·exact zV11
      refine pure_ (i := 42) (N := some 91) (v := undef) (a' := ?_) zq11_43 rfl rfl (any_of HT_.out (by kernel_rfl)) (fun _ _ _ h => h) (Or.inr ⟨by rfl, rfl⟩) ?_ ?_
      rotate_left
      ·exact zV11
      refine pure_ (i := 43) (N := some 92) (v := undef) (a' := ?_) zq11_44 rfl rfl (any_of HT_.out (by kernel_rfl)) (fun _ _ _ h => h) (Or.inr ⟨by rfl, rfl⟩) ?_ ?_
      rotate_left
      ·exact zV11
      refine pure_ (i := 44) (N := some 93) (v := undef) (a' := ?_) zq11_45 rfl rfl (any_of HT_.out (by kernel_rfl)) (fun _ _ _ h => h) (Or.inr ⟨by rfl, rfl⟩) ?_ ?_
      rotate_left
      ·exact zV11
      refine pure_ (i := 45) (N := some 94) (v := ?_) (a' := ?_) zq11_46 rfl rfl (any_of HT_.out (by kernel_rfl)) (fun _ _ _ h => h) (Or.inl ⟨by rfl, ?_⟩) ?_ ?_
      rotate_left
      ·intro w'
       go_simp
       with_reducible rfl
      rotate_left
      ·exact zV11
      refine done_ (done_of HT_.out (by kernel_rfl)) ?_
      try go_wp2
      go_ret
      exact ⟨by first | rfl | (simp [errW_none, errW_some] <;> rfl) | (simp only [← hji19]; first | rfl | (simp [errW_none, errW_some] <;> rfl)) | (simp [*, errW_none, errW_some] <;> rfl), zB11_0⟩
     rw [if_pos c26] at H
     have c26b0 : ((wrap64 ((rd t388 x8_2) + (((rd_T45 t385 x8_2).f1).length : Int))) == (rd t388 (ji19))) = true := beq_iff_eq.mpr c26
     have c26b1 : ((wrap64 ((rd t388 x8_2) + (((rd_T45 t385 x8_2).f1).length : Int))) != (rd t388 (ji19))) = false := bne_eq_false_iff_eq.mpr c26
     clear c26
     replace H := Option.bind_eq_some_iff.mp H
     obtain ⟨t403, A270, H⟩ := H
     replace H : (if t403 = x8_2 then (laws_FnLayouts.l0 k2 t385 t388 t389 ji19) else (some false)) = some r := H
     have A27 := Aside0.mk A270
     clear A270
     by_cases c28 : t403 = x8_2
     rotate_left
     ·rw [if_neg c28] at H
      have c28b0 : (t403 == x8_2) = false := beq_eq_false_iff_ne.mpr c28
      have c28b1 : (t403 != x8_2) = true := bne_iff_ne.mpr c28
      obtain rfl := Option.some.inj H
      obtain ⟨Ao32, co32, eo32⟩ := Kd.R_slice HO_4.out
      subst eo32
      have p397 : 0 ≤ ((ji19) : Int) := zA11
      have q397 : (ji19) < (t388.length : Int) := zA11
      obtain ⟨ad397, e397, hx397_0⟩ := Kd.at_int (Kd.R_reads' HO_4.out).2.2 (ji19) p397 q397
      cases e397
      replace p397 := eq_true p397
      replace q397 := eq_true q397
      try go_wp2
      have n0_ := Aside0.mk (Kd.S_drew HO_3.out)
      have n1_ := Aside0.mk (Kd.R_drew HO_4.out)
      have n2_ := Aside0.mk (below_drew1 HB.out)
      clear HO_3 HO_4 HB
      have HO_3 := n0_
      have HO_4 := n1_
      have HB := n2_
      clear n0_ n1_ n2_
      have p398 : 0 ≤ (x8_2 : Int) := zA11
      have q398 : x8_2 < (t388.length : Int) := zA11
      obtain ⟨ad398, e398, hx398_0⟩ := Kd.at_int (Kd.R_reads' HO_4.out).2.2 x8_2 p398 q398
      obtain rfl : ad397 = ad398 := (by injection e398)
      replace p398 := eq_true p398
      replace q398 := eq_true q398
      have p399 : 0 ≤ (x8_2 : Int) := zA11
      have q399 : x8_2 < (t385.length : Int) := zA11
      obtain ⟨ad399, A399_1, c399_1, A399_2, c399_2, e399, hx399_0, hx399_1, hx399_2, hl399_1, hi399_1, hl399_2, hi399_2⟩ := at_T45 (Kd.S_reads' HO_3.out).2.2 x8_2 p399 q399
      cases e399
      obtain ⟨ce399, hce399, hMe399, hcc399⟩ := Kd.S_get HO_3.out z45 x8_2 p399 (by first | exact q399 | exact zA11 | (have e_ := (Kd.S_reads' HO_3.out).1; omega))
      obtain ⟨ve399_1, ve399_2, rfl, ge399_1, ge399_2⟩ := k45_openM hMe399
      have hv399_1 := hcc399 1 _ rfl
      rw [add_field _ _ 1 (by omega)] at hv399_1
      replace hv399_1 := Option.some.inj (hv399_1.symm.trans hx399_1)
      rw [hv399_1] at ge399_1
      have HL399_1 := Aside0.mk (show Kd.R k52 52 _ _ _ _ ((rd_T45 t385 x8_2).f1) from ge399_1)
      clear hv399_1 ge399_1
      have hv399_2 := hcc399 2 _ rfl
      rw [add_field _ _ 2 (by omega)] at hv399_2
      replace hv399_2 := Option.some.inj (hv399_2.symm.trans hx399_2)
      rw [hv399_2] at ge399_2
      have HL399_2 := Aside0.mk (show Kd.R k56 56 _ _ _ _ ((rd_T45 t385 x8_2).f2) from ge399_2)
      clear hv399_2 ge399_2 hcc399 hce399
      have HR399_1 := Aside0.mk hi399_1
      have HC399_1 := Aside0.mk hl399_1
      clear hi399_1 hl399_1
      have HR399_2 := Aside0.mk hi399_2
      have HC399_2 := Aside0.mk hl399_2
      clear hi399_2 hl399_2
      replace p399 := eq_true p399
      replace q399 := eq_true q399
      have p400 : 0 ≤ (x8_2 : Int) := zA11
      have q400 : x8_2 < (t388.length : Int) := zA11
      obtain ⟨ad400, e400, hx400_0⟩ := Kd.at_int (Kd.R_reads' HO_4.out).2.2 x8_2 p400 q400
      obtain rfl : ad397 = ad400 := (by injection e400)
      replace p400 := eq_true p400
      replace q400 := eq_true q400
      have p401 : 0 ≤ (x8_2 : Int) := zA11
      have q401 : x8_2 < (t385.length : Int) := zA11
      obtain ⟨ad401, A401_1, c401_1, A401_2, c401_2, e401, hx401_0, hx401_1, hx401_2, hl401_1, hi401_1, hl401_2, hi401_2⟩ := at_T45 (Kd.S_reads' HO_3.out).2.2 x8_2 p401 q401
      obtain rfl : ad399 = ad401 := (by injection e401)
      obtain ⟨ce401, hce401, hMe401, hcc401⟩ := Kd.S_get HO_3.out z45 x8_2 p401 (by first | exact q401 | exact zA11 | (have e_ := (Kd.S_reads' HO_3.out).1; omega))
      obtain ⟨ve401_1, ve401_2, rfl, ge401_1, ge401_2⟩ := k45_openM hMe401
      have hv401_1 := hcc401 1 _ rfl
      rw [add_field _ _ 1 (by omega)] at hv401_1
      replace hv401_1 := Option.some.inj (hv401_1.symm.trans hx401_1)
      rw [hv401_1] at ge401_1
      have HL401_1 := Aside0.mk (show Kd.R k52 52 _ _ _ _ ((rd_T45 t385 x8_2).f1) from ge401_1)
      clear hv401_1 ge401_1
      have hv401_2 := hcc401 2 _ rfl
      rw [add_field _ _ 2 (by omega)] at hv401_2
      replace hv401_2 := Option.some.inj (hv401_2.symm.trans hx401_2)
      rw [hv401_2] at ge401_2
      have HL401_2 := Aside0.mk (show Kd.R k56 56 _ _ _ _ ((rd_T45 t385 x8_2).f2) from ge401_2)
      clear hv401_2 ge401_2 hcc401 hce401
      have HR401_1 := Aside0.mk hi401_1
      have HC401_1 := Aside0.mk hl401_1
      clear hi401_1 hl401_1
      have HR401_2 := Aside0.mk hi401_2
      have HC401_2 := Aside0.mk hl401_2
      clear hi401_2 hl401_2
      replace p401 := eq_true p401
      replace q401 := eq_true q401
      have ea_ := Option.some.inj (hx399_1.symm.trans hx401_1)
      injection ea_ with ea_ en_ ec_
      subst ea_
      subst ec_
      clear en_
      have ea_ := Option.some.inj (hx399_2.symm.trans hx401_2)
      injection ea_ with ea_ en_ ec_
      subst ea_
      subst ec_
      clear en_
      have p402 : 0 ≤ (x8_2 : Int) := zA11
      have q402 : x8_2 < (t385.length : Int) := zA11
      obtain ⟨ad402, A402_1, c402_1, A402_2, c402_2, e402, hx402_0, hx402_1, hx402_2, hl402_1, hi402_1, hl402_2, hi402_2⟩ := at_T45 (Kd.S_reads' HO_3.out).2.2 x8_2 p402 q402
      obtain rfl : ad399 = ad402 := (by injection e402)
      obtain ⟨ce402, hce402, hMe402, hcc402⟩ := Kd.S_get HO_3.out z45 x8_2 p402 (by first | exact q402 | exact zA11 | (have e_ := (Kd.S_reads' HO_3.out).1; omega))
      obtain ⟨ve402_1, ve402_2, rfl, ge402_1, ge402_2⟩ := k45_openM hMe402
      have hv402_1 := hcc402 1 _ rfl
      rw [add_field _ _ 1 (by omega)] at hv402_1
      replace hv402_1 := Option.some.inj (hv402_1.symm.trans hx402_1)
      rw [hv402_1] at ge402_1
      have HL402_1 := Aside0.mk (show Kd.R k52 52 _ _ _ _ ((rd_T45 t385 x8_2).f1) from ge402_1)
      clear hv402_1 ge402_1
      have hv402_2 := hcc402 2 _ rfl
      rw [add_field _ _ 2 (by omega)] at hv402_2
      replace hv402_2 := Option.some.inj (hv402_2.symm.trans hx402_2)
      rw [hv402_2] at ge402_2
      have HL402_2 := Aside0.mk (show Kd.R k56 56 _ _ _ _ ((rd_T45 t385 x8_2).f2) from ge402_2)
      clear hv402_2 ge402_2 hcc402 hce402
      have HR402_1 := Aside0.mk hi402_1
      have HC402_1 := Aside0.mk hl402_1
      clear hi402_1 hl402_1
      have HR402_2 := Aside0.mk hi402_2
      have HC402_2 := Aside0.mk hl402_2
      clear hi402_2 hl402_2
      replace p402 := eq_true p402
      replace q402 := eq_true q402
      have ea_ := Option.some.inj (hx399_1.symm.trans hx402_1)
      injection ea_ with ea_ en_ ec_
      subst ea_
      subst ec_
      clear en_
      have ea_ := Option.some.inj (hx399_2.symm.trans hx402_2)
      injection ea_ with ea_ en_ ec_
      subst ea_
      subst ec_
      clear en_
      refine start_ (n := 46) (S := fun w' => w'.cell? (ad397.add (x8_2).toNat) = some (.int .i64 (rd t388 x8_2)) ∧ w'.cell? (ad399.add ((x8_2).toNat * 3)) = some (.string ((rd_T45 t385 x8_2).f0)) ∧ w'.cell? ⟨(ad399.add ((x8_2).toNat * 3)).block, (ad399.add ((x8_2).toNat * 3)).off + 1, none⟩ = some (.slice A399_1 ((rd_T45 t385 x8_2).f1).length c399_1) ∧ w'.cell? ⟨(ad399.add ((x8_2).toNat * 3)).block, (ad399.add ((x8_2).toNat * 3)).off + 2, none⟩ = some (.slice A399_2 ((rd_T45 t385 x8_2).f2).length c399_2) ∧ w'.cell? (ad397.add (x8_2).toNat) = some (.int .i64 (rd t388 x8_2)) ∧ w'.cell? (ad399.add ((x8_2).toNat * 3)) = some (.string ((rd_T45 t385 x8_2).f0)) ∧ w'.cell? ⟨(ad399.add ((x8_2).toNat * 3)).block, (ad399.add ((x8_2).toNat * 3)).off + 1, none⟩ = some (.slice A399_1 ((rd_T45 t385 x8_2).f1).length c399_1) ∧ w'.cell? ⟨(ad399.add ((x8_2).toNat * 3)).block, (ad399.add ((x8_2).toNat * 3)).off + 2, none⟩ = some (.slice A399_2 ((rd_T45 t385 x8_2).f2).length c399_2) ∧ w'.cell? (ad399.add ((x8_2).toNat * 3)) = some (.string ((rd_T45 t385 x8_2).f0)) ∧ w'.cell? ⟨(ad399.add ((x8_2).toNat * 3)).block, (ad399.add ((x8_2).toNat * 3)).off + 1, none⟩ = some (.slice A399_1 ((rd_T45 t385 x8_2).f1).length c399_1) ∧ w'.cell? ⟨(ad399.add ((x8_2).toNat * 3)).block, (ad399.add ((x8_2).toNat * 3)).off + 2, none⟩ = some (.slice A399_2 ((rd_T45 t385 x8_2).f2).length c399_2)) (ds := []) zq11_0 (by kernel_rfl) rfl rfl ⟨hx398_0, hx399_0, hx399_1, hx399_2, hx400_0, hx401_0, hx401_1, hx401_2, hx402_0, hx402_1, hx402_2⟩ (fun hHeld => ?_); refine with_tabW laws_FnLayouts.tab14 laws_FnLayouts.bits14 (fun HT_ HW_ => ?_)
      generalize wr.drew = w33 at HO_3 HO_4 HB HL399_1 HL399_2 HL401_1 HL401_2 HL402_1 HL402_2 HR399_1 HR399_2 HR401_1 HR401_2 HR402_1 HR402_2 hx398_0 hx399_0 hx399_1 hx399_2 hx400_0 hx401_0 hx401_1 hx401_2 hx402_0 hx402_1 hx402_2 hHeld ⊢
      refine pure_ (i := 0) (N := some 49) (v := ?_) (a' := ?_) zq11_1 rfl rfl (any_of HT_.out (by kernel_rfl)) (fun _ _ _ h => h) (Or.inl ⟨by rfl, ?_⟩) ?_ ?_
      rotate_left
      ·intro w'
       go_simp
       with_reducible rfl
      rotate_left
      ·exact zV11
      refine pure_ (i := 1) (N := some 50) (v := ?_) (a' := ?_) zq11_2 rfl rfl (any_of HT_.out (by kernel_rfl)) (fun _ _ _ h => h) (Or.inl ⟨by rfl, ?_⟩) ?_ ?_
      rotate_left
      ·intro w'
       go_simp
       with_reducible rfl
      rotate_left
      ·exact zV11
      refine pure_ (i := 2) (N := some 51) (v := ?_) (a' := ?_) zq11_3 rfl rfl (any_of HT_.out (by kernel_rfl)) (fun _ _ _ h => h) (Or.inl ⟨by rfl, ?_⟩) ?_ ?_
      rotate_left
      ·intro w'
       go_simp
       with_reducible rfl
      rotate_left
      ·exact zV11
      refine pure_ (i := 4) (N := some 53) (v := ?_) (a' := ?_) zq11_4 rfl rfl (any_of HT_.out (by kernel_rfl)) (fun _ _ _ h => h) (Or.inl ⟨by rfl, ?_⟩) ?_ ?_
      rotate_left
      ·intro w'
       go_simp
       with_reducible rfl
      rotate_left
      ·exact zV11
      refine pure_ (i := 5) (N := some 54) (v := ?_) (a' := ?_) zq11_5 rfl rfl (any_of HT_.out (by kernel_rfl)) (fun _ _ _ h => h) (Or.inl ⟨by rfl, ?_⟩) ?_ ?_
      rotate_left
      ·intro w'
       go_simp
       with_reducible rfl
      rotate_left
      ·exact zV11
      refine pure_ (i := 6) (N := some 55) (v := ?_) (a' := ?_) zq11_6 rfl rfl (any_of HT_.out (by kernel_rfl)) (fun _ _ _ h => h) (Or.inl ⟨by rfl, ?_⟩) ?_ ?_
      rotate_left
      ·intro w'
       go_simp
       with_reducible rfl
      rotate_left
      ·exact zV11
      refine pure_ (i := 7) (N := some 56) (v := ?_) (a' := ?_) zq11_7 rfl rfl (any_of HT_.out (by kernel_rfl)) (fun _ _ _ h => h) (Or.inl ⟨by rfl, ?_⟩) ?_ ?_
      rotate_left
      ·intro w'
       go_simp
       with_reducible rfl
      rotate_left
      ·exact zV11
      refine pure_ (i := 11) (N := some 60) (v := ?_) (a' := ?_) zq11_8 rfl rfl (any_of HT_.out (by kernel_rfl)) (fun _ _ _ h => h) (Or.inl ⟨by rfl, ?_⟩) ?_ ?_
      rotate_left
      ·intro w'
       go_simp
       with_reducible rfl
      rotate_left
      ·exact zV11
      refine take_ (i := 3) (N := some 52) (v := ?_) (a' := ?_) zq11_9 rfl rfl (take_ofW HT_.out HW_.out (by kernel_rfl)) (fun _ _ _ h => h) (Or.inl ⟨by rfl, ?_⟩) hHeld ?_ ?_
      rotate_left
      ·rintro w' ⟨s0, s1, s2, s3, s4, s5, s6, s7, s8, s9, s10⟩
       go_simp
       with_reducible rfl
      rotate_left
      ·exact zV11
      refine take_ (i := 8) (N := some 57) (v := ?_) (a' := ?_) zq11_10 rfl rfl (take_ofW HT_.out HW_.out (by kernel_rfl)) (fun _ _ _ h => h) (Or.inl ⟨by rfl, ?_⟩) hHeld ?_ ?_
      rotate_left
      ·rintro w' ⟨s0, s1, s2, s3, s4, s5, s6, s7, s8, s9, s10⟩
       go_simp
       with_reducible rfl
      rotate_left
      ·exact zV11
      refine pure_ (i := 9) (N := some 58) (v := ?_) (a' := ?_) zq11_11 rfl rfl (any_of HT_.out (by kernel_rfl)) (fun _ _ _ h => h) (Or.inl ⟨by rfl, ?_⟩) ?_ ?_
      rotate_left
      ·intro w'
       go_simp
       with_reducible rfl
      rotate_left
      ·exact zV11
      refine pure_ (i := 10) (N := some 59) (v := ?_) (a' := ?_) zq11_12 rfl rfl (any_of HT_.out (by kernel_rfl)) (fun _ _ _ h => h) (Or.inl ⟨by rfl, ?_⟩) ?_ ?_
      rotate_left
      ·intro w'
       go_simp
       with_reducible rfl
      rotate_left
      ·exact zV11
      refine pure_ (i := 12) (N := some 61) (v := ?_) (a' := ?_) zq11_13 rfl rfl (any_of HT_.out (by kernel_rfl)) (fun _ _ _ h => h) (Or.inl ⟨by rfl, ?_⟩) ?_ ?_
      rotate_left
      ·intro w'
       go_simp
       with_reducible rfl
      rotate_left
      ·exact zV11
      refine pure_ (i := 13) (N := some 62) (v := ?_) (a' := ?_) zq11_14 rfl rfl (any_of HT_.out (by kernel_rfl)) (fun _ _ _ h => h) (Or.inl ⟨by rfl, ?_⟩) ?_ ?_
      rotate_left
      ·intro w'
       go_simp
       with_reducible rfl
      rotate_left
      ·exact zV11
      refine pure_ (i := 14) (N := some 63) (v := ?_) (a' := ?_) zq11_15 rfl rfl (any_of HT_.out (by kernel_rfl)) (fun _ _ _ h => h) (Or.inl ⟨by rfl, ?_⟩) ?_ ?_
      rotate_left
      ·intro w'
       go_simp
       with_reducible rfl
      rotate_left
      ·exact zV11
      refine pure_ (i := 15) (N := some 64) (v := ?_) (a' := ?_) zq11_16 rfl rfl (any_of HT_.out (by kernel_rfl)) (fun _ _ _ h => h) (Or.inl ⟨by rfl, ?_⟩) ?_ ?_
      rotate_left
      ·intro w'
       go_simp
       with_reducible rfl
      rotate_left
      ·exact zV11
      refine pure_ (i := 16) (N := some 65) (v := ?_) (a' := ?_) zq11_17 rfl rfl (any_of HT_.out (by kernel_rfl)) (fun _ _ _ h => h) (Or.inl ⟨by rfl, ?_⟩) ?_ ?_
      rotate_left
      ·intro w'
       go_simp
       with_reducible rfl
      rotate_left
      ·exact zV11
      refine pure_ (i := 17) (N := some 66) (v := ?_) (a' := ?_) zq11_18 rfl rfl (any_of HT_.out (by kernel_rfl)) (fun _ _ _ h => h) (Or.inl ⟨by rfl, ?_⟩) ?_ ?_
      rotate_left
      ·intro w'
       go_simp
       with_reducible rfl
      rotate_left
      ·exact zV11
      refine pure_ (i := 18) (N := some 67) (v := ?_) (a' := ?_) zq11_19 rfl rfl (any_of HT_.out (by kernel_rfl)) (fun _ _ _ h => h) (Or.inl ⟨by rfl, ?_⟩) ?_ ?_
      rotate_left
      ·intro w'
       go_simp
       with_reducible rfl
      rotate_left
      ·exact zV11
      refine pure_ (i := 19) (N := some 68) (v := ?_) (a' := ?_) zq11_20 rfl rfl (any_of HT_.out (by kernel_rfl)) (fun _ _ _ h => h) (Or.inl ⟨by rfl, ?_⟩) ?_ ?_
      rotate_left
      ·intro w'
       go_simp
       with_reducible rfl
      rotate_left
      ·exact zV11
      refine pure_ (i := 20) (N := some 69) (v := ?_) (a' := ?_) zq11_21 rfl rfl (any_of HT_.out (by kernel_rfl)) (fun _ _ _ h => h) (Or.inl ⟨by rfl, ?_⟩) ?_ ?_
      rotate_left
      ·intro w'
       go_simp
       with_reducible rfl
      rotate_left
      ·exact zV11
      refine pure_ (i := 21) (N := some 70) (v := ?_) (a' := ?_) zq11_22 rfl rfl (any_of HT_.out (by kernel_rfl)) (fun _ _ _ h => h) (Or.inl ⟨by rfl, ?_⟩) ?_ ?_
      rotate_left
      ·intro w'
       go_simp
       with_reducible rfl
      rotate_left
      ·exact zV11
      refine pure_ (i := 22) (N := some 71) (v := ?_) (a' := ?_) zq11_23 rfl rfl (any_of HT_.out (by kernel_rfl)) (fun _ _ _ h => h) (Or.inl ⟨by rfl, ?_⟩) ?_ ?_
      rotate_left
      ·intro w'
       go_simp
       with_reducible rfl
      rotate_left
      ·exact zV11
      refine pure_ (i := 24) (N := some 73) (v := ?_) (a' := ?_) zq11_47 rfl rfl (any_of HT_.out (by kernel_rfl)) (fun _ _ _ h => h) (Or.inl ⟨by rfl, ?_⟩) ?_ ?_
      rotate_left
      ·intro w'
       go_simp
       with_reducible rfl
      rotate_left
      ·exact zV11
      refine pure_ (i := 25) (N := some 74) (v := ?_) (a' := ?_) zq11_48 rfl rfl (any_of HT_.out (by kernel_rfl)) (fun _ _ _ h => h) (Or.inl ⟨by rfl, ?_⟩) ?_ ?_
      rotate_left
      ·intro w'
       go_simp
       with_reducible rfl
      rotate_left
      ·exact zV11
      refine pure_ (i := 26) (N := some 75) (v := ?_) (a' := ?_) zq11_49 rfl rfl (any_of HT_.out (by kernel_rfl)) (fun _ _ _ h => h) (Or.inl ⟨by rfl, ?_⟩) ?_ ?_
      rotate_left
      ·intro w'
       go_simp
       with_reducible rfl
      rotate_left
      ·exact zV11
      refine pure_ (i := 27) (N := some 76) (v := ?_) (a' := ?_) zq11_50 rfl rfl (any_of HT_.out (by kernel_rfl)) (fun _ _ _ h => h) (Or.inl ⟨by rfl, ?_⟩) ?_ ?_
      rotate_left
      ·intro w'
       go_simp
       with_reducible rfl
      rotate_left
      ·exact zV11
      refine pure_ (i := 31) (N := some 80) (v := ?_) (a' := ?_) zq11_51 rfl rfl (any_of HT_.out (by kernel_rfl)) (fun _ _ _ h => h) (Or.inl ⟨by rfl, ?_⟩) ?_ ?_
      rotate_left
      ·intro w'
       go_simp
       with_reducible rfl
      rotate_left
      ·exact zV11
      refine take_ (i := 23) (N := some 72) (v := ?_) (a' := ?_) zq11_52 rfl rfl (take_ofW HT_.out HW_.out (by kernel_rfl)) (fun _ _ _ h => h) (Or.inl ⟨by rfl, ?_⟩) hHeld ?_ ?_
      rotate_left
      ·rintro w' ⟨s0, s1, s2, s3, s4, s5, s6, s7, s8, s9, s10⟩
       go_simp
       with_reducible rfl
      rotate_left
      ·exact zV11
      refine take_ (i := 28) (N := some 77) (v := ?_) (a' := ?_) zq11_53 rfl rfl (take_ofW HT_.out HW_.out (by kernel_rfl)) (fun _ _ _ h => h) (Or.inl ⟨by rfl, ?_⟩) hHeld ?_ ?_
      rotate_left
      ·rintro w' ⟨s0, s1, s2, s3, s4, s5, s6, s7, s8, s9, s10⟩
       go_simp
       with_reducible rfl
      rotate_left
      ·exact zV11
      refine pure_ (i := 29) (N := some 78) (v := ?_) (a' := ?_) zq11_54 rfl rfl (any_of HT_.out (by kernel_rfl)) (fun _ _ _ h => h) (Or.inl ⟨by rfl, ?_⟩) ?_ ?_
      rotate_left
      ·intro w'
       go_simp
       with_reducible rfl
      rotate_left
      ·exact zV11
      refine pure_ (i := 30) (N := some 79) (v := ?_) (a' := ?_) zq11_32 rfl rfl (any_of HT_.out (by kernel_rfl)) (fun _ _ _ h => h) (Or.inl ⟨by rfl, ?_⟩) ?_ ?_
      rotate_left
      ·intro w'
       go_simp
       with_reducible rfl
      rotate_left
      ·exact zV11
      refine pure_ (i := 32) (N := some 81) (v := ?_) (a' := ?_) zq11_33 rfl rfl (any_of HT_.out (by kernel_rfl)) (fun _ _ _ h => h) (Or.inl ⟨by rfl, ?_⟩) ?_ ?_
      rotate_left
      ·intro w'
       go_simp
       with_reducible rfl
      rotate_left
      ·exact zV11
      refine pure_ (i := 33) (N := some 82) (v := ?_) (a' := ?_) zq11_34 rfl rfl (any_of HT_.out (by kernel_rfl)) (fun _ _ _ h => h) (Or.inl ⟨by rfl, ?_⟩) ?_ ?_
      rotate_left
      ·intro w'
       go_simp
       with_reducible rfl
      rotate_left
      ·exact zV11
      refine pure_ (i := 34) (N := some 83) (v := ?_) (a' := ?_) zq11_35 rfl rfl (any_of HT_.out (by kernel_rfl)) (fun _ _ _ h => h) (Or.inl ⟨by rfl, ?_⟩) ?_ ?_
      rotate_left
      ·intro w'
       go_simp
       with_reducible rfl
      rotate_left
      ·exact zV11
      refine pure_ (i := 35) (N := some 84) (v := ?_) (a' := ?_) zq11_36 rfl rfl (any_of HT_.out (by kernel_rfl)) (fun _ _ _ h => h) (Or.inl ⟨by rfl, ?_⟩) ?_ ?_
      rotate_left
      ·intro w'
       go_simp
       with_reducible rfl
      rotate_left
      ·exact zV11
      refine pure_ (i := 36) (N := some 85) (v := ?_) (a' := ?_) zq11_37 rfl rfl (any_of HT_.out (by kernel_rfl)) (fun _ _ _ h => h) (Or.inl ⟨by rfl, ?_⟩) ?_ ?_
      rotate_left
      ·intro w'
       go_simp
       with_reducible rfl
      rotate_left
      ·exact zV11
      refine pure_ (i := 37) (N := some 86) (v := ?_) (a' := ?_) zq11_38 rfl rfl (any_of HT_.out (by kernel_rfl)) (fun _ _ _ h => h) (Or.inl ⟨by rfl, ?_⟩) ?_ ?_
      rotate_left
      ·intro w'
       go_simp
       with_reducible rfl
      rotate_left
      ·exact zV11
      refine pure_ (i := 38) (N := some 87) (v := ?_) (a' := ?_) zq11_39 rfl rfl (any_of HT_.out (by kernel_rfl)) (fun _ _ _ h => h) (Or.inl ⟨by rfl, ?_⟩) ?_ ?_
      rotate_left
      ·intro w'
       go_simp
       with_reducible rfl
      rotate_left
      ·exact zV11
      refine pure_ (i := 39) (N := some 88) (v := ?_) (a' := ?_) zq11_40 rfl rfl (any_of HT_.out (by kernel_rfl)) (fun _ _ _ h => h) (Or.inl ⟨by rfl, ?_⟩) ?_ ?_
      rotate_left
      ·intro w'
       go_simp
       with_reducible rfl
      rotate_left
      ·exact zV11
      refine pure_ (i := 40) (N := some 89) (v := ?_) (a' := ?_) zq11_41 rfl rfl (any_of HT_.out (by kernel_rfl)) (fun _ _ _ h => h) (Or.inl ⟨by rfl, ?_⟩) ?_ ?_
      rotate_left
      ·intro w'
       go_simp
       with_reducible rfl
      rotate_left
      ·exact zV11
      refine pure_ (i := 43) (N := some 92) (v := ?_) (a' := ?_) zq11_55 rfl rfl (any_of HT_.out (by kernel_rfl)) (fun _ _ _ h => h) (Or.inl ⟨by rfl, ?_⟩) ?_ ?_
      rotate_left
      ·intro w'
       go_simp
       with_reducible rfl
      rotate_left
      ·exact zV11
      refine take_ (i := 41) (N := some 90) (v := ?_) (a' := ?_) zq11_56 rfl rfl (take_ofW HT_.out HW_.out (by kernel_rfl)) (fun _ _ _ h => h) (Or.inl ⟨by rfl, ?_⟩) hHeld ?_ ?_
      rotate_left
      ·rintro w' ⟨s0, s1, s2, s3, s4, s5, s6, s7, s8, s9, s10⟩
       go_simp
       with_reducible rfl
      rotate_left
      ·exact zV11
      refine one_ (i := 42) (N := some 91) zq11_44 rfl rfl (one_of HT_.out (by kernel_rfl)) (by decide) (fun K hK => ?_)
      refine goes_ Try.func39 (by kernel_rfl) rfl #[.slice (some ad399) t385.length co9, .string ((rd_T45 t385 x8_2).f0)] (by rfl) rfl rfl zT11 ?_
      with_reducible refine (impl_PartAt.calls _ _ t385 ((rd_T45 t385 x8_2).f0) t403 _ ?side1 ?side2 A27.out).mono ?_
      (case side1 => exact zC11 (Kd.S_reads' HO_3.out).2.2)
      (case side2 => exact (Kd.S_reads' HO_3.out).2.1)
      rintro e w34 ⟨rfl, hb⟩
      have HS0_ := (hb.cell (World.block_lt_of_cell? _ _ (hHeld.1))).trans (hHeld.1)
      have HS1_ := (hb.cell (World.block_lt_of_cell? _ _ (hHeld.2.1))).trans (hHeld.2.1)
      have HS2_ := (hb.cell (World.block_lt_of_cell? _ _ (hHeld.2.2.1))).trans (hHeld.2.2.1)
      have HS3_ := (hb.cell (World.block_lt_of_cell? _ _ (hHeld.2.2.2.1))).trans (hHeld.2.2.2.1)
      have HS4_ := (hb.cell (World.block_lt_of_cell? _ _ (hHeld.2.2.2.2.1))).trans (hHeld.2.2.2.2.1)
      have HS5_ := (hb.cell (World.block_lt_of_cell? _ _ (hHeld.2.2.2.2.2.1))).trans (hHeld.2.2.2.2.2.1)
      have HS6_ := (hb.cell (World.block_lt_of_cell? _ _ (hHeld.2.2.2.2.2.2.1))).trans (hHeld.2.2.2.2.2.2.1)
      have HS7_ := (hb.cell (World.block_lt_of_cell? _ _ (hHeld.2.2.2.2.2.2.2.1))).trans (hHeld.2.2.2.2.2.2.2.1)
      have HS8_ := (hb.cell (World.block_lt_of_cell? _ _ (hHeld.2.2.2.2.2.2.2.2.1))).trans (hHeld.2.2.2.2.2.2.2.2.1)
      have HS9_ := (hb.cell (World.block_lt_of_cell? _ _ (hHeld.2.2.2.2.2.2.2.2.2.1))).trans (hHeld.2.2.2.2.2.2.2.2.2.1)
      have HS10_ := (hb.cell (World.block_lt_of_cell? _ _ (hHeld.2.2.2.2.2.2.2.2.2.2))).trans (hHeld.2.2.2.2.2.2.2.2.2.2)
      refine ⟨_, rfl, ?_⟩
      have n0_ := Aside0.mk (Kd.S_below (by (with_reducible repeat (first | apply Kd.S_alloc | apply Kd.S_drewN | apply Kd.S_drew)); exact HO_3.out) hb)
      have n1_ := Aside0.mk (Kd.R_below (zR11 HO_4.out) hb)
      have n2_ := Aside0.mk (Kd.R_below (zR11 HL399_1.out) hb)
      have n3_ := Aside0.mk (Kd.R_below (zR11 HL399_2.out) hb)
      have n4_ := Aside0.mk (Kd.R_below (zR11 HL401_1.out) hb)
      have n5_ := Aside0.mk (Kd.R_below (zR11 HL401_2.out) hb)
      have n6_ := Aside0.mk (Kd.R_below (zR11 HL402_1.out) hb)
      have n7_ := Aside0.mk (Kd.R_below (zR11 HL402_2.out) hb)
      have n8_ := Aside0.mk (Kd.C_below (by repeat (first | (with_reducible exact HR399_1.out) | (with_reducible refine Kd.C_alloc ?_ _) | (with_reducible refine Kd.C_drewN ?_ _) | (with_reducible refine Kd.C_drew ?_) | exact HR399_1.out)) hb)
      have n9_ := Aside0.mk (Kd.C_below (by repeat (first | (with_reducible exact HR399_2.out) | (with_reducible refine Kd.C_alloc ?_ _) | (with_reducible refine Kd.C_drewN ?_ _) | (with_reducible refine Kd.C_drew ?_) | exact HR399_2.out)) hb)
      have n10_ := Aside0.mk (Kd.C_below (by repeat (first | (with_reducible exact HR401_1.out) | (with_reducible refine Kd.C_alloc ?_ _) | (with_reducible refine Kd.C_drewN ?_ _) | (with_reducible refine Kd.C_drew ?_) | exact HR401_1.out)) hb)
      have n11_ := Aside0.mk (Kd.C_below (by repeat (first | (with_reducible exact HR401_2.out) | (with_reducible refine Kd.C_alloc ?_ _) | (with_reducible refine Kd.C_drewN ?_ _) | (with_reducible refine Kd.C_drew ?_) | exact HR401_2.out)) hb)
      have n12_ := Aside0.mk (Kd.C_below (by repeat (first | (with_reducible exact HR402_1.out) | (with_reducible refine Kd.C_alloc ?_ _) | (with_reducible refine Kd.C_drewN ?_ _) | (with_reducible refine Kd.C_drew ?_) | exact HR402_1.out)) hb)
      have n13_ := Aside0.mk (Kd.C_below (by repeat (first | (with_reducible exact HR402_2.out) | (with_reducible refine Kd.C_alloc ?_ _) | (with_reducible refine Kd.C_drewN ?_ _) | (with_reducible refine Kd.C_drew ?_) | exact HR402_2.out)) hb)
      have n14_ := Aside0.mk (below_step (zB11_0) hb)
      clear HO_3 HO_4 HL399_1 HL399_2 HL401_1 HL401_2 HL402_1 HL402_2 HR399_1 HR399_2 HR401_1 HR401_2 HR402_1 HR402_2 HB
      have HO_3 := n0_
      have HO_4 := n1_
      have HL399_1 := n2_
      have HL399_2 := n3_
      have HL401_1 := n4_
      have HL401_2 := n5_
      have HL402_1 := n6_
      have HL402_2 := n7_
      have HR399_1 := n8_
      have HR399_2 := n9_
      have HR401_1 := n10_
      have HR401_2 := n11_
      have HR402_1 := n12_
      have HR402_2 := n13_
      have HB := n14_
      clear n0_ n1_ n2_ n3_ n4_ n5_ n6_ n7_ n8_ n9_ n10_ n11_ n12_ n13_ n14_
      (try clear hb)
      (try clear hb2)
      (try clear hk)
      (try clear hi)
      refine hK.out _ _ ⟨HS0_, HS1_, HS2_, HS3_, HS4_, HS5_, HS6_, HS7_, HS8_, HS9_, HS10_⟩ (fun hHeld => ?_)
      clear hK K
      refine norm_ (a' := ?_) ?_ ?_
      rotate_left
      ·show Act.put _ (some 91) _ = _
       simp only [Act.put, List.setIfInBounds_toArray, List.set_cons_zero, List.set_cons_succ, i64_w, i32_w]
       rfl
      refine pure_ (i := 44) (N := some 93) (v := ?_) (a' := ?_) zq11_45 rfl rfl (any_of HT_.out (by kernel_rfl)) (fun _ _ _ h => h) (Or.inl ⟨by rfl, ?_⟩) ?_ ?_
      rotate_left
      ·intro w'
       go_simp
       with_reducible rfl
      rotate_left
      ·exact zV11
      refine pure_ (i := 45) (N := some 94) (v := ?_) (a' := ?_) zq11_46 rfl rfl (any_of HT_.out (by kernel_rfl)) (fun _ _ _ h => h) (Or.inl ⟨by rfl, ?_⟩) ?_ ?_
      rotate_left
      ·intro w'
       go_simp
       with_reducible rfl
      rotate_left
      ·exact zV11
      refine done_ (done_of HT_.out (by kernel_rfl)) ?_
      try go_wp2
      go_ret
      exact ⟨by first | rfl | (simp [errW_none, errW_some] <;> rfl) | (simp only [← hji19]; first | rfl | (simp [errW_none, errW_some] <;> rfl)) | (simp [*, errW_none, errW_some] <;> rfl), zB11_0⟩
     rw [if_pos c28] at H
     have c28b0 : (t403 == x8_2) = true := beq_iff_eq.mpr c28
     have c28b1 : (t403 != x8_2) = false := bne_eq_false_iff_eq.mpr c28
     clear c28
     have H' := Aside0.mk H
     clear H
     obtain ⟨Ao29, co29, eo29⟩ := Kd.R_slice HO_4.out
     subst eo29
     have p397 : 0 ≤ ((ji19) : Int) := zA11
     have q397 : (ji19) < (t388.length : Int) := zA11
     obtain ⟨ad397, e397, hx397_0⟩ := Kd.at_int (Kd.R_reads' HO_4.out).2.2 (ji19) p397 q397
     cases e397
     replace p397 := eq_true p397
     replace q397 := eq_true q397
     try go_wp2
     have n0_ := Aside0.mk (Kd.S_drew HO_3.out)
     have n1_ := Aside0.mk (Kd.R_drew HO_4.out)
     have n2_ := Aside0.mk (below_drew1 HB.out)
     clear HO_3 HO_4 HB
     have HO_3 := n0_
     have HO_4 := n1_
     have HB := n2_
     clear n0_ n1_ n2_
     have p398 : 0 ≤ (x8_2 : Int) := zA11
     have q398 : x8_2 < (t388.length : Int) := zA11
     obtain ⟨ad398, e398, hx398_0⟩ := Kd.at_int (Kd.R_reads' HO_4.out).2.2 x8_2 p398 q398
     obtain rfl : ad397 = ad398 := (by injection e398)
     replace p398 := eq_true p398
     replace q398 := eq_true q398
     have p399 : 0 ≤ (x8_2 : Int) := zA11
     have q399 : x8_2 < (t385.length : Int) := zA11
     obtain ⟨ad399, A399_1, c399_1, A399_2, c399_2, e399, hx399_0, hx399_1, hx399_2, hl399_1, hi399_1, hl399_2, hi399_2⟩ := at_T45 (Kd.S_reads' HO_3.out).2.2 x8_2 p399 q399
     cases e399
     obtain ⟨ce399, hce399, hMe399, hcc399⟩ := Kd.S_get HO_3.out z45 x8_2 p399 (by first | exact q399 | exact zA11 | (have e_ := (Kd.S_reads' HO_3.out).1; omega))
     obtain ⟨ve399_1, ve399_2, rfl, ge399_1, ge399_2⟩ := k45_openM hMe399
     have hv399_1 := hcc399 1 _ rfl
     rw [add_field _ _ 1 (by omega)] at hv399_1
     replace hv399_1 := Option.some.inj (hv399_1.symm.trans hx399_1)
     rw [hv399_1] at ge399_1
     have HL399_1 := Aside0.mk (show Kd.R k52 52 _ _ _ _ ((rd_T45 t385 x8_2).f1) from ge399_1)
     clear hv399_1 ge399_1
     have hv399_2 := hcc399 2 _ rfl
     rw [add_field _ _ 2 (by omega)] at hv399_2
     replace hv399_2 := Option.some.inj (hv399_2.symm.trans hx399_2)
     rw [hv399_2] at ge399_2
     have HL399_2 := Aside0.mk (show Kd.R k56 56 _ _ _ _ ((rd_T45 t385 x8_2).f2) from ge399_2)
     clear hv399_2 ge399_2 hcc399 hce399
     have HR399_1 := Aside0.mk hi399_1
     have HC399_1 := Aside0.mk hl399_1
     clear hi399_1 hl399_1
     have HR399_2 := Aside0.mk hi399_2
     have HC399_2 := Aside0.mk hl399_2
     clear hi399_2 hl399_2
     replace p399 := eq_true p399
     replace q399 := eq_true q399
     have p400 : 0 ≤ (x8_2 : Int) := zA11
     have q400 : x8_2 < (t388.length : Int) := zA11
     obtain ⟨ad400, e400, hx400_0⟩ := Kd.at_int (Kd.R_reads' HO_4.out).2.2 x8_2 p400 q400
     obtain rfl : ad397 = ad400 := (by injection e400)
     replace p400 := eq_true p400
     replace q400 := eq_true q400
     have p401 : 0 ≤ (x8_2 : Int) := zA11
     have q401 : x8_2 < (t385.length : Int) := zA11
     obtain ⟨ad401, A401_1, c401_1, A401_2, c401_2, e401, hx401_0, hx401_1, hx401_2, hl401_1, hi401_1, hl401_2, hi401_2⟩ := at_T45 (Kd.S_reads' HO_3.out).2.2 x8_2 p401 q401
     obtain rfl : ad399 = ad401 := (by injection e401)
     obtain ⟨ce401, hce401, hMe401, hcc401⟩ := Kd.S_get HO_3.out z45 x8_2 p401 (by first | exact q401 | exact zA11 | (have e_ := (Kd.S_reads' HO_3.out).1; omega))
     obtain ⟨ve401_1, ve401_2, rfl, ge401_1, ge401_2⟩ := k45_openM hMe401
     have hv401_1 := hcc401 1 _ rfl
     rw [add_field _ _ 1 (by omega)] at hv401_1
     replace hv401_1 := Option.some.inj (hv401_1.symm.trans hx401_1)
     rw [hv401_1] at ge401_1
     have HL401_1 := Aside0.mk (show Kd.R k52 52 _ _ _ _ ((rd_T45 t385 x8_2).f1) from ge401_1)
     clear hv401_1 ge401_1
     have hv401_2 := hcc401 2 _ rfl
     rw [add_field _ _ 2 (by omega)] at hv401_2
     replace hv401_2 := Option.some.inj (hv401_2.symm.trans hx401_2)
     rw [hv401_2] at ge401_2
     have HL401_2 := Aside0.mk (show Kd.R k56 56 _ _ _ _ ((rd_T45 t385 x8_2).f2) from ge401_2)
     clear hv401_2 ge401_2 hcc401 hce401
     have HR401_1 := Aside0.mk hi401_1
     have HC401_1 := Aside0.mk hl401_1
     clear hi401_1 hl401_1
     have HR401_2 := Aside0.mk hi401_2
     have HC401_2 := Aside0.mk hl401_2
     clear hi401_2 hl401_2
     replace p401 := eq_true p401
     replace q401 := eq_true q401
     have ea_ := Option.some.inj (hx399_1.symm.trans hx401_1)
     injection ea_ with ea_ en_ ec_
     subst ea_
     subst ec_
     clear en_
     have ea_ := Option.some.inj (hx399_2.symm.trans hx401_2)
     injection ea_ with ea_ en_ ec_
     subst ea_
     subst ec_
     clear en_
     have p402 : 0 ≤ (x8_2 : Int) := zA11
     have q402 : x8_2 < (t385.length : Int) := zA11
     obtain ⟨ad402, A402_1, c402_1, A402_2, c402_2, e402, hx402_0, hx402_1, hx402_2, hl402_1, hi402_1, hl402_2, hi402_2⟩ := at_T45 (Kd.S_reads' HO_3.out).2.2 x8_2 p402 q402
     obtain rfl : ad399 = ad402 := (by injection e402)
     obtain ⟨ce402, hce402, hMe402, hcc402⟩ := Kd.S_get HO_3.out z45 x8_2 p402 (by first | exact q402 | exact zA11 | (have e_ := (Kd.S_reads' HO_3.out).1; omega))
     obtain ⟨ve402_1, ve402_2, rfl, ge402_1, ge402_2⟩ := k45_openM hMe402
     have hv402_1 := hcc402 1 _ rfl
     rw [add_field _ _ 1 (by omega)] at hv402_1
     replace hv402_1 := Option.some.inj (hv402_1.symm.trans hx402_1)
     rw [hv402_1] at ge402_1
     have HL402_1 := Aside0.mk (show Kd.R k52 52 _ _ _ _ ((rd_T45 t385 x8_2).f1) from ge402_1)
     clear hv402_1 ge402_1
     have hv402_2 := hcc402 2 _ rfl
     rw [add_field _ _ 2 (by omega)] at hv402_2
     replace hv402_2 := Option.some.inj (hv402_2.symm.trans hx402_2)
     rw [hv402_2] at ge402_2
     have HL402_2 := Aside0.mk (show Kd.R k56 56 _ _ _ _ ((rd_T45 t385 x8_2).f2) from ge402_2)
     clear hv402_2 ge402_2 hcc402 hce402
     have HR402_1 := Aside0.mk hi402_1
     have HC402_1 := Aside0.mk hl402_1
     clear hi402_1 hl402_1
     have HR402_2 := Aside0.mk hi402_2
     have HC402_2 := Aside0.mk hl402_2
     clear hi402_2 hl402_2
     replace p402 := eq_true p402
     replace q402 := eq_true q402
     have ea_ := Option.some.inj (hx399_1.symm.trans hx402_1)
     injection ea_ with ea_ en_ ec_
     subst ea_
     subst ec_
     clear en_
     have ea_ := Option.some.inj (hx399_2.symm.trans hx402_2)
     injection ea_ with ea_ en_ ec_
     subst ea_
     subst ec_
     clear en_
     refine start_ (n := 46) (S := fun w' => w'.cell? (ad397.add (x8_2).toNat) = some (.int .i64 (rd t388 x8_2)) ∧ w'.cell? (ad399.add ((x8_2).toNat * 3)) = some (.string ((rd_T45 t385 x8_2).f0)) ∧ w'.cell? ⟨(ad399.add ((x8_2).toNat * 3)).block, (ad399.add ((x8_2).toNat * 3)).off + 1, none⟩ = some (.slice A399_1 ((rd_T45 t385 x8_2).f1).length c399_1) ∧ w'.cell? ⟨(ad399.add ((x8_2).toNat * 3)).block, (ad399.add ((x8_2).toNat * 3)).off + 2, none⟩ = some (.slice A399_2 ((rd_T45 t385 x8_2).f2).length c399_2) ∧ w'.cell? (ad397.add (x8_2).toNat) = some (.int .i64 (rd t388 x8_2)) ∧ w'.cell? (ad399.add ((x8_2).toNat * 3)) = some (.string ((rd_T45 t385 x8_2).f0)) ∧ w'.cell? ⟨(ad399.add ((x8_2).toNat * 3)).block, (ad399.add ((x8_2).toNat * 3)).off + 1, none⟩ = some (.slice A399_1 ((rd_T45 t385 x8_2).f1).length c399_1) ∧ w'.cell? ⟨(ad399.add ((x8_2).toNat * 3)).block, (ad399.add ((x8_2).toNat * 3)).off + 2, none⟩ = some (.slice A399_2 ((rd_T45 t385 x8_2).f2).length c399_2) ∧ w'.cell? (ad399.add ((x8_2).toNat * 3)) = some (.string ((rd_T45 t385 x8_2).f0)) ∧ w'.cell? ⟨(ad399.add ((x8_2).toNat * 3)).block, (ad399.add ((x8_2).toNat * 3)).off + 1, none⟩ = some (.slice A399_1 ((rd_T45 t385 x8_2).f1).length c399_1) ∧ w'.cell? ⟨(ad399.add ((x8_2).toNat * 3)).block, (ad399.add ((x8_2).toNat * 3)).off + 2, none⟩ = some (.slice A399_2 ((rd_T45 t385 x8_2).f2).length c399_2)) (ds := []) zq11_0 (by kernel_rfl) rfl rfl ⟨hx398_0, hx399_0, hx399_1, hx399_2, hx400_0, hx401_0, hx401_1, hx401_2, hx402_0, hx402_1, hx402_2⟩ (fun hHeld => ?_); refine with_tabW laws_FnLayouts.tab14 laws_FnLayouts.bits14 (fun HT_ HW_ => ?_)
     generalize wr.drew = w30 at HO_3 HO_4 HB HL399_1 HL399_2 HL401_1 HL401_2 HL402_1 HL402_2 HR399_1 HR399_2 HR401_1 HR401_2 HR402_1 HR402_2 hx398_0 hx399_0 hx399_1 hx399_2 hx400_0 hx401_0 hx401_1 hx401_2 hx402_0 hx402_1 hx402_2 hHeld ⊢
     refine pure_ (i := 0) (N := some 49) (v := ?_) (a' := ?_) zq11_1 rfl rfl (any_of HT_.out (by kernel_rfl)) (fun _ _ _ h => h) (Or.inl ⟨by rfl, ?_⟩) ?_ ?_
     rotate_left
     ·intro w'
      go_simp
      with_reducible rfl
     rotate_left
     ·exact zV11
     refine pure_ (i := 1) (N := some 50) (v := ?_) (a' := ?_) zq11_2 rfl rfl (any_of HT_.out (by kernel_rfl)) (fun _ _ _ h => h) (Or.inl ⟨by rfl, ?_⟩) ?_ ?_
     rotate_left
     ·intro w'
      go_simp
      with_reducible rfl
     rotate_left
     ·exact zV11
     refine pure_ (i := 2) (N := some 51) (v := ?_) (a' := ?_) zq11_3 rfl rfl (any_of HT_.out (by kernel_rfl)) (fun _ _ _ h => h) (Or.inl ⟨by rfl, ?_⟩) ?_ ?_
     rotate_left
     ·intro w'
      go_simp
      with_reducible rfl
     rotate_left
     ·exact zV11
     refine pure_ (i := 4) (N := some 53) (v := ?_) (a' := ?_) zq11_4 rfl rfl (any_of HT_.out (by kernel_rfl)) (fun _ _ _ h => h) (Or.inl ⟨by rfl, ?_⟩) ?_ ?_
     rotate_left
     ·intro w'
      go_simp
      with_reducible rfl
     rotate_left
     ·exact zV11
     refine pure_ (i := 5) (N := some 54) (v := ?_) (a' := ?_) zq11_5 rfl rfl (any_of HT_.out (by kernel_rfl)) (fun _ _ _ h => h) (Or.inl ⟨by rfl, ?_⟩) ?_ ?_
     rotate_left
     ·intro w'
      go_simp
      with_reducible rfl
     rotate_left
     ·exact zV11
     refine pure_ (i := 6) (N := some 55) (v := ?_) (a' := ?_) zq11_6 rfl rfl (any_of HT_.out (by kernel_rfl)) (fun _ _ _ h => h) (Or.inl ⟨by rfl, ?_⟩) ?_ ?_
     rotate_left
     ·intro w'
      go_simp
      with_reducible rfl
     rotate_left
     ·exact zV11
     refine pure_ (i := 7) (N := some 56) (v := ?_) (a' := ?_) zq11_7 rfl rfl (any_of HT_.out (by kernel_rfl)) (fun _ _ _ h => h) (Or.inl ⟨by rfl, ?_⟩) ?_ ?_
     rotate_left
     ·intro w'
      go_simp
      with_reducible rfl
     rotate_left
     ·exact zV11
     refine pure_ (i := 11) (N := some 60) (v := ?_) (a' := ?_) zq11_8 rfl rfl (any_of HT_.out (by kernel_rfl)) (fun _ _ _ h => h) (Or.inl ⟨by rfl, ?_⟩) ?_ ?_
     rotate_left
     ·intro w'
      go_simp
      with_reducible rfl
     rotate_left
     ·exact zV11
     refine take_ (i := 3) (N := some 52) (v := ?_) (a' := ?_) zq11_9 rfl rfl (take_ofW HT_.out HW_.out (by kernel_rfl)) (fun _ _ _ h => h) (Or.inl ⟨by rfl, ?_⟩) hHeld ?_ ?_
     rotate_left
     ·rintro w' ⟨s0, s1, s2, s3, s4, s5, s6, s7, s8, s9, s10⟩
      go_simp
      with_reducible rfl
     rotate_left
     ·exact zV11
     refine take_ (i := 8) (N := some 57) (v := ?_) (a' := ?_) zq11_10 rfl rfl (take_ofW HT_.out HW_.out (by kernel_rfl)) (fun _ _ _ h => h) (Or.inl ⟨by rfl, ?_⟩) hHeld ?_ ?_
     rotate_left
     ·rintro w' ⟨s0, s1, s2, s3, s4, s5, s6, s7, s8, s9, s10⟩
      go_simp
      with_reducible rfl
     rotate_left
     ·exact zV11
     refine pure_ (i := 9) (N := some 58) (v := ?_) (a' := ?_) zq11_11 rfl rfl (any_of HT_.out (by kernel_rfl)) (fun _ _ _ h => h) (Or.inl ⟨by rfl, ?_⟩) ?_ ?_
     rotate_left
     ·intro w'
      go_simp
      with_reducible rfl
     rotate_left
     ·exact zV11
     refine pure_ (i := 10) (N := some 59) (v := ?_) (a' := ?_) zq11_12 rfl rfl (any_of HT_.out (by kernel_rfl)) (fun _ _ _ h => h) (Or.inl ⟨by rfl, ?_⟩) ?_ ?_
     rotate_left
     ·intro w'
      go_simp
      with_reducible rfl
     rotate_left
     ·exact zV11
     refine pure_ (i := 12) (N := some 61) (v := ?_) (a' := ?_) zq11_13 rfl rfl (any_of HT_.out (by kernel_rfl)) (fun _ _ _ h => h) (Or.inl ⟨by rfl, ?_⟩) ?_ ?_
     rotate_left
     ·intro w'
      go_simp
      with_reducible rfl
     rotate_left
     ·exact zV11
     refine pure_ (i := 13) (N := some 62) (v := ?_) (a' := ?_) zq11_14 rfl rfl (any_of HT_.out (by kernel_rfl)) (fun _ _ _ h => h) (Or.inl ⟨by rfl, ?_⟩) ?_ ?_
     rotate_left
     ·intro w'
      go_simp
      with_reducible rfl
     rotate_left
     ·exact zV11
     refine pure_ (i := 14) (N := some 63) (v := ?_) (a' := ?_) zq11_15 rfl rfl (any_of HT_.out (by kernel_rfl)) (fun _ _ _ h => h) (Or.inl ⟨by rfl, ?_⟩) ?_ ?_
     rotate_left
     ·intro w'
      go_simp
      with_reducible rfl
     rotate_left
     ·exact zV11
     refine pure_ (i := 15) (N := some 64) (v := ?_) (a' := ?_) zq11_16 rfl rfl (any_of HT_.out (by kernel_rfl)) (fun _ _ _ h => h) (Or.inl ⟨by rfl, ?_⟩) ?_ ?_
     rotate_left
     ·intro w'
      go_simp
      with_reducible rfl
     rotate_left
     ·exact zV11
     refine pure_ (i := 16) (N := some 65) (v := ?_) (a' := ?_) zq11_17 rfl rfl (any_of HT_.out (by kernel_rfl)) (fun _ _ _ h => h) (Or.inl ⟨by rfl, ?_⟩) ?_ ?_
     rotate_left
     ·intro w'
      go_simp
      with_reducible rfl
     rotate_left
     ·exact zV11
     refine pure_ (i := 17) (N := some 66) (v := ?_) (a' := ?_) zq11_18 rfl rfl (any_of HT_.out (by kernel_rfl)) (fun _ _ _ h => h) (Or.inl ⟨by rfl, ?_⟩) ?_ ?_
     rotate_left
     ·intro w'
      go_simp
      with_reducible rfl
     rotate_left
     ·exact zV11
     refine pure_ (i := 18) (N := some 67) (v := ?_) (a' := ?_) zq11_19 rfl rfl (any_of HT_.out (by kernel_rfl)) (fun _ _ _ h => h) (Or.inl ⟨by rfl, ?_⟩) ?_ ?_
     rotate_left
     ·intro w'
      go_simp
      with_reducible rfl
     rotate_left
     ·exact zV11
     refine pure_ (i := 19) (N := some 68) (v := ?_) (a' := ?_) zq11_20 rfl rfl (any_of HT_.out (by kernel_rfl)) (fun _ _ _ h => h) (Or.inl ⟨by rfl, ?_⟩) ?_ ?_
     rotate_left
     ·intro w'
      go_simp
      with_reducible rfl
     rotate_left
     ·exact zV11
     refine pure_ (i := 20) (N := some 69) (v := ?_) (a' := ?_) zq11_21 rfl rfl (any_of HT_.out (by kernel_rfl)) (fun _ _ _ h => h) (Or.inl ⟨by rfl, ?_⟩) ?_ ?_
     rotate_left
     ·intro w'
      go_simp
      with_reducible rfl
     rotate_left
     ·exact zV11
     refine pure_ (i := 21) (N := some 70) (v := ?_) (a' := ?_) zq11_22 rfl rfl (any_of HT_.out (by kernel_rfl)) (fun _ _ _ h => h) (Or.inl ⟨by rfl, ?_⟩) ?_ ?_
     rotate_left
     ·intro w'
      go_simp
      with_reducible rfl
     rotate_left
     ·exact zV11
     refine pure_ (i := 22) (N := some 71) (v := ?_) (a' := ?_) zq11_23 rfl rfl (any_of HT_.out (by kernel_rfl)) (fun _ _ _ h => h) (Or.inl ⟨by rfl, ?_⟩) ?_ ?_
     rotate_left
     ·intro w'
      go_simp
      with_reducible rfl
     rotate_left
     ·exact zV11
     refine pure_ (i := 24) (N := some 73) (v := ?_) (a' := ?_) zq11_47 rfl rfl (any_of HT_.out (by kernel_rfl)) (fun _ _ _ h => h) (Or.inl ⟨by rfl, ?_⟩) ?_ ?_
     rotate_left
     ·intro w'
      go_simp
      with_reducible rfl
     rotate_left
     ·exact zV11
     refine pure_ (i := 25) (N := some 74) (v := ?_) (a' := ?_) zq11_48 rfl rfl (any_of HT_.out (by kernel_rfl)) (fun _ _ _ h => h) (Or.inl ⟨by rfl, ?_⟩) ?_ ?_
     rotate_left
     ·intro w'
      go_simp
      with_reducible rfl
     rotate_left
     ·exact zV11
     refine pure_ (i := 26) (N := some 75) (v := ?_) (a' := ?_) zq11_49 rfl rfl (any_of HT_.out (by kernel_rfl)) (fun _ _ _ h => h) (Or.inl ⟨by rfl, ?_⟩) ?_ ?_
     rotate_left
     ·intro w'
      go_simp
      with_reducible rfl
     rotate_left
     ·exact zV11
     refine pure_ (i := 27) (N := some 76) (v := ?_) (a' := ?_) zq11_50 rfl rfl (any_of HT_.out (by kernel_rfl)) (fun _ _ _ h => h) (Or.inl ⟨by rfl, ?_⟩) ?_ ?_
     rotate_left
     ·intro w'
      go_simp
      with_reducible rfl
     rotate_left
     ·exact zV11
     refine pure_ (i := 31) (N := some 80) (v := ?_) (a' := ?_) zq11_51 rfl rfl (any_of HT_.out (by kernel_rfl)) (fun _ _ _ h => h) (Or.inl ⟨by rfl, ?_⟩) ?_ ?_
     rotate_left
     ·intro w'
      go_simp
      with_reducible rfl
     rotate_left
     ·exact zV11
     refine take_ (i := 23) (N := some 72) (v := ?_) (a' := ?_) zq11_52 rfl rfl (take_ofW HT_.out HW_.out (by kernel_rfl)) (fun _ _ _ h => h) (Or.inl ⟨by rfl, ?_⟩) hHeld ?_ ?_
     rotate_left
     ·rintro w' ⟨s0, s1, s2, s3, s4, s5, s6, s7, s8, s9, s10⟩
      go_simp
      with_reducible rfl
     rotate_left
     ·exact zV11
     refine take_ (i := 28) (N := some 77) (v := ?_) (a' := ?_) zq11_53 rfl rfl (take_ofW HT_.out HW_.out (by kernel_rfl)) (fun _ _ _ h => h) (Or.inl ⟨by rfl, ?_⟩) hHeld ?_ ?_
     rotate_left
     ·rintro w' ⟨s0, s1, s2, s3, s4, s5, s6, s7, s8, s9, s10⟩
      go_simp
      with_reducible rfl
     rotate_left
     ·exact zV11
     refine pure_ (i := 29) (N := some 78) (v := ?_) (a' := ?_) zq11_54 rfl rfl (any_of HT_.out (by kernel_rfl)) (fun _ _ _ h => h) (Or.inl ⟨by rfl, ?_⟩) ?_ ?_
     rotate_left
     ·intro w'
      go_simp
      with_reducible rfl
     rotate_left
     ·exact zV11
     refine pure_ (i := 30) (N := some 79) (v := ?_) (a' := ?_) zq11_32 rfl rfl (any_of HT_.out (by kernel_rfl)) (fun _ _ _ h => h) (Or.inl ⟨by rfl, ?_⟩) ?_ ?_
     rotate_left
     ·intro w'
      go_simp
      with_reducible rfl
     rotate_left
     ·exact zV11
     refine pure_ (i := 32) (N := some 81) (v := ?_) (a' := ?_) zq11_33 rfl rfl (any_of HT_.out (by kernel_rfl)) (fun _ _ _ h => h) (Or.inl ⟨by rfl, ?_⟩) ?_ ?_
     rotate_left
     ·intro w'
      go_simp
      with_reducible rfl
     rotate_left
     ·exact zV11
     refine pure_ (i := 33) (N := some 82) (v := ?_) (a' := ?_) zq11_34 rfl rfl (any_of HT_.out (by kernel_rfl)) (fun _ _ _ h => h) (Or.inl ⟨by rfl, ?_⟩) ?_ ?_
     rotate_left
     ·intro w'
      go_simp
      with_reducible rfl
     rotate_left
     ·exact zV11
     refine pure_ (i := 34) (N := some 83) (v := ?_) (a' := ?_) zq11_35 rfl rfl (any_of HT_.out (by kernel_rfl)) (fun _ _ _ h => h) (Or.inl ⟨by rfl, ?_⟩) ?_ ?_
     rotate_left
     ·intro w'
      go_simp
      with_reducible rfl
     rotate_left
     ·exact zV11
     refine pure_ (i := 35) (N := some 84) (v := ?_) (a' := ?_) zq11_36 rfl rfl (any_of HT_.out (by kernel_rfl)) (fun _ _ _ h => h) (Or.inl ⟨by rfl, ?_⟩) ?_ ?_
     rotate_left
     ·intro w'
      go_simp
      with_reducible rfl
     rotate_left
     ·exact zV11
     refine pure_ (i := 36) (N := some 85) (v := ?_) (a' := ?_) zq11_37 rfl rfl (any_of HT_.out (by kernel_rfl)) (fun _ _ _ h => h) (Or.inl ⟨by rfl, ?_⟩) ?_ ?_
     rotate_left
     ·intro w'
      go_simp
      with_reducible rfl
     rotate_left
     ·exact zV11
     refine pure_ (i := 37) (N := some 86) (v := ?_) (a' := ?_) zq11_38 rfl rfl (any_of HT_.out (by kernel_rfl)) (fun _ _ _ h => h) (Or.inl ⟨by rfl, ?_⟩) ?_ ?_
     rotate_left
     ·intro w'
      go_simp
      with_reducible rfl
     rotate_left
     ·exact zV11
     refine pure_ (i := 38) (N := some 87) (v := ?_) (a' := ?_) zq11_39 rfl rfl (any_of HT_.out (by kernel_rfl)) (fun _ _ _ h => h) (Or.inl ⟨by rfl, ?_⟩) ?_ ?_
     rotate_left
     ·intro w'
      go_simp
      with_reducible rfl
     rotate_left
     ·exact zV11
     refine pure_ (i := 39) (N := some 88) (v := ?_) (a' := ?_) zq11_40 rfl rfl (any_of HT_.out (by kernel_rfl)) (fun _ _ _ h => h) (Or.inl ⟨by rfl, ?_⟩) ?_ ?_
     rotate_left
     ·intro w'
      go_simp
      with_reducible rfl
     rotate_left
     ·exact zV11
     refine pure_ (i := 40) (N := some 89) (v := ?_) (a' := ?_) zq11_41 rfl rfl (any_of HT_.out (by kernel_rfl)) (fun _ _ _ h => h) (Or.inl ⟨by rfl, ?_⟩) ?_ ?_
     rotate_left
     ·intro w'
      go_simp
      with_reducible rfl
     rotate_left
     ·exact zV11
     refine pure_ (i := 43) (N := some 92) (v := ?_) (a' := ?_) zq11_55 rfl rfl (any_of HT_.out (by kernel_rfl)) (fun _ _ _ h => h) (Or.inl ⟨by rfl, ?_⟩) ?_ ?_
     rotate_left
     ·intro w'
      go_simp
      with_reducible rfl
     rotate_left
     ·exact zV11
     refine take_ (i := 41) (N := some 90) (v := ?_) (a' := ?_) zq11_56 rfl rfl (take_ofW HT_.out HW_.out (by kernel_rfl)) (fun _ _ _ h => h) (Or.inl ⟨by rfl, ?_⟩) hHeld ?_ ?_
     rotate_left
     ·rintro w' ⟨s0, s1, s2, s3, s4, s5, s6, s7, s8, s9, s10⟩
      go_simp
      with_reducible rfl
     rotate_left
     ·exact zV11
     refine one_ (i := 42) (N := some 91) zq11_44 rfl rfl (one_of HT_.out (by kernel_rfl)) (by decide) (fun K hK => ?_)
     refine goes_ Try.func39 (by kernel_rfl) rfl #[.slice (some ad399) t385.length co9, .string ((rd_T45 t385 x8_2).f0)] (by rfl) rfl rfl zT11 ?_
     with_reducible refine (impl_PartAt.calls _ _ t385 ((rd_T45 t385 x8_2).f0) t403 _ ?side1 ?side2 A27.out).mono ?_
     (case side1 => exact zC11 (Kd.S_reads' HO_3.out).2.2)
     (case side2 => exact (Kd.S_reads' HO_3.out).2.1)
     rintro e w31 ⟨rfl, hb⟩
     have HS0_ := (hb.cell (World.block_lt_of_cell? _ _ (hHeld.1))).trans (hHeld.1)
     have HS1_ := (hb.cell (World.block_lt_of_cell? _ _ (hHeld.2.1))).trans (hHeld.2.1)
     have HS2_ := (hb.cell (World.block_lt_of_cell? _ _ (hHeld.2.2.1))).trans (hHeld.2.2.1)
     have HS3_ := (hb.cell (World.block_lt_of_cell? _ _ (hHeld.2.2.2.1))).trans (hHeld.2.2.2.1)
     have HS4_ := (hb.cell (World.block_lt_of_cell? _ _ (hHeld.2.2.2.2.1))).trans (hHeld.2.2.2.2.1)
     have HS5_ := (hb.cell (World.block_lt_of_cell? _ _ (hHeld.2.2.2.2.2.1))).trans (hHeld.2.2.2.2.2.1)
     have HS6_ := (hb.cell (World.block_lt_of_cell? _ _ (hHeld.2.2.2.2.2.2.1))).trans (hHeld.2.2.2.2.2.2.1)
     have HS7_ := (hb.cell (World.block_lt_of_cell? _ _ (hHeld.2.2.2.2.2.2.2.1))).trans (hHeld.2.2.2.2.2.2.2.1)
     have HS8_ := (hb.cell (World.block_lt_of_cell? _ _ (hHeld.2.2.2.2.2.2.2.2.1))).trans (hHeld.2.2.2.2.2.2.2.2.1)
     have HS9_ := (hb.cell (World.block_lt_of_cell? _ _ (hHeld.2.2.2.2.2.2.2.2.2.1))).trans (hHeld.2.2.2.2.2.2.2.2.2.1)
     have HS10_ := (hb.cell (World.block_lt_of_cell? _ _ (hHeld.2.2.2.2.2.2.2.2.2.2))).trans (hHeld.2.2.2.2.2.2.2.2.2.2)
     refine ⟨_, rfl, ?_⟩
     have n0_ := Aside0.mk (Kd.S_below (by (with_reducible repeat (first | apply Kd.S_alloc | apply Kd.S_drewN | apply Kd.S_drew)); exact HO_3.out) hb)
     have n1_ := Aside0.mk (Kd.R_below (zR11 HO_4.out) hb)
     have n2_ := Aside0.mk (Kd.R_below (zR11 HL399_1.out) hb)
     have n3_ := Aside0.mk (Kd.R_below (zR11 HL399_2.out) hb)
     have n4_ := Aside0.mk (Kd.R_below (zR11 HL401_1.out) hb)
     have n5_ := Aside0.mk (Kd.R_below (zR11 HL401_2.out) hb)
     have n6_ := Aside0.mk (Kd.R_below (zR11 HL402_1.out) hb)
     have n7_ := Aside0.mk (Kd.R_below (zR11 HL402_2.out) hb)
     have n8_ := Aside0.mk (Kd.C_below (by repeat (first | (with_reducible exact HR399_1.out) | (with_reducible refine Kd.C_alloc ?_ _) | (with_reducible refine Kd.C_drewN ?_ _) | (with_reducible refine Kd.C_drew ?_) | exact HR399_1.out)) hb)
     have n9_ := Aside0.mk (Kd.C_below (by repeat (first | (with_reducible exact HR399_2.out) | (with_reducible refine Kd.C_alloc ?_ _) | (with_reducible refine Kd.C_drewN ?_ _) | (with_reducible refine Kd.C_drew ?_) | exact HR399_2.out)) hb)
     have n10_ := Aside0.mk (Kd.C_below (by repeat (first | (with_reducible exact HR401_1.out) | (with_reducible refine Kd.C_alloc ?_ _) | (with_reducible refine Kd.C_drewN ?_ _) | (with_reducible refine Kd.C_drew ?_) | exact HR401_1.out)) hb)
     have n11_ := Aside0.mk (Kd.C_below (by repeat (first | (with_reducible exact HR401_2.out) | (with_reducible refine Kd.C_alloc ?_ _) | (with_reducible refine Kd.C_drewN ?_ _) | (with_reducible refine Kd.C_drew ?_) | exact HR401_2.out)) hb)
     have n12_ := Aside0.mk (Kd.C_below (by repeat (first | (with_reducible exact HR402_1.out) | (with_reducible refine Kd.C_alloc ?_ _) | (with_reducible refine Kd.C_drewN ?_ _) | (with_reducible refine Kd.C_drew ?_) | exact HR402_1.out)) hb)
     have n13_ := Aside0.mk (Kd.C_below (by repeat (first | (with_reducible exact HR402_2.out) | (with_reducible refine Kd.C_alloc ?_ _) | (with_reducible refine Kd.C_drewN ?_ _) | (with_reducible refine Kd.C_drew ?_) | exact HR402_2.out)) hb)
     have n14_ := Aside0.mk (below_step (zB11_0) hb)
     clear HO_3 HO_4 HL399_1 HL399_2 HL401_1 HL401_2 HL402_1 HL402_2 HR399_1 HR399_2 HR401_1 HR401_2 HR402_1 HR402_2 HB
     have HO_3 := n0_
     have HO_4 := n1_
     have HL399_1 := n2_
     have HL399_2 := n3_
     have HL401_1 := n4_
     have HL401_2 := n5_
     have HL402_1 := n6_
     have HL402_2 := n7_
     have HR399_1 := n8_
     have HR399_2 := n9_
     have HR401_1 := n10_
     have HR401_2 := n11_
     have HR402_1 := n12_
     have HR402_2 := n13_
     have HB := n14_
     clear n0_ n1_ n2_ n3_ n4_ n5_ n6_ n7_ n8_ n9_ n10_ n11_ n12_ n13_ n14_
     (try clear hb)
     (try clear hb2)
     (try clear hk)
     (try clear hi)
     refine hK.out _ _ ⟨HS0_, HS1_, HS2_, HS3_, HS4_, HS5_, HS6_, HS7_, HS8_, HS9_, HS10_⟩ (fun hHeld => ?_)
     clear hK K
     refine norm_ (a' := ?_) ?_ ?_
     rotate_left
     ·show Act.put _ (some 91) _ = _
      simp only [Act.put, List.setIfInBounds_toArray, List.set_cons_zero, List.set_cons_succ, i64_w, i32_w]
      rfl
     refine pure_ (i := 44) (N := some 93) (v := ?_) (a' := ?_) zq11_45 rfl rfl (any_of HT_.out (by kernel_rfl)) (fun _ _ _ h => h) (Or.inl ⟨by rfl, ?_⟩) ?_ ?_
     rotate_left
     ·intro w'
      go_simp
      with_reducible rfl
     rotate_left
     ·exact zV11
     refine pure_ (i := 45) (N := some 94) (v := ?_) (a' := ?_) zq11_46 rfl rfl (any_of HT_.out (by kernel_rfl)) (fun _ _ _ h => h) (Or.inl ⟨by rfl, ?_⟩) ?_ ?_
     rotate_left
     ·intro w'
      go_simp
      with_reducible rfl
     rotate_left
     ·exact zV11
     refine done_ (done_of HT_.out (by kernel_rfl)) ?_
     try go_wp2
     go_roundg k2
     case measure => have := HJ6.out; have := HK2.out; omega
     case rel => exact ⟨(ji19), (by first | rfl | (simp; done) | (simp only [← hji19] <;> (first | rfl | simp)) | (simp [*]; done)), H', ⟨by have := HJ6.out; have := HK2.out; omega⟩, ⟨by (with_reducible repeat (first | apply Kd.S_alloc | apply Kd.S_drewN | apply Kd.S_drew)); exact HO_3.out⟩, ⟨zR11 HO_4.out⟩, ⟨zB11_0⟩⟩

/-- THE ONE PURE STATEMENT of laws_FnLayouts: yours. -/
def laws_FnLayouts.Pure : Prop := ∀ (l0 : List Int), l0.length ≤ maxLen → l0.length * 1 ≤ 140737488351232 → (∀ x ∈ l0, (Lit.int .u8 x).wf = true) → ∃ k, laws_FnLayouts.f k l0 = some true
theorem laws_FnLayouts.walk (P : laws_FnLayouts.Pure) (a0 : Option Addr) (len0 cap0 : Nat) (z0 : List Int) (w : World) (w0 : (a0 = none ∧ len0 = 0 ∧ cap0 = 0 ∧ z0 = []) ∨ ∃ x, a0 = some x ∧ len0 ≤ cap0 ∧ cap0 ≤ maxLen ∧ z0.length = cap0 ∧ (∀ i, i < z0.length → w.cell? (x.add i) = some (.int .u8 (z0.getD i 0))) ∧ ∀ n ∈ z0, (Lit.int .u8 n).wf = true) (y0 : len0 * 1 ≤ 140737488351232) :
  Calls Try.prog 9 #[.slice a0 len0 cap0] w fun e w' => e = .returned (.bool true) ∧ Below w.heap.size w w' := by
 obtain ⟨l0, rfl, hr0, hm0, hw0, hc0⟩ := ReadsInt.ofRowC w0
 obtain ⟨k, h⟩ := P l0 hm0 y0 hw0
 refine (laws_FnLayouts.calls k _ _ l0 true w (Kd.C_of_reads (d := (0 : Int)) (h1 := fun _ => rfl) hr0) hc0 h).mono ?_
 rintro e w' ⟨rfl, hd⟩
 exact ⟨rfl, hd⟩

end Go.Proofs.Ytnekcbajadnldaa.PFnLayouts
