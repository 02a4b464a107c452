-- made by wip/tools/myprint.py out of the seat's translation
import Derived.Test.YtajhfpeijagpnaaPFnResumesx0
import Derived.Test.YtajhfpeijagpnaaPFnResumesx2
import Derived.Test.YtajhfpeijagpnaaPFnResumesx5
import Derived.Test.YtajhfpeijagpnaaPFnResumesx9
import Derived.Test.YtajhfpeijagpnaaPFnResumesx10
import Derived.Test.YtajhfpeijagpnaaPFnResumesx13
import Derived.Test.YtajhfpeijagpnaaPFnResumesx14
import Derived.Test.YtajhfpeijagpnaaPFnResumesx15
namespace Go.Proofs.Ytajhfpeijagpnaa.PFnResumes
open Go.RowKit Go.Proofs.YtajhfpeijagpnaaW.PrintWords Go.Proofs.YtajhfpeijagpnaaW.PrintLast Go.Proofs.YtajhfpeijagpnaaW.PrintMore
attribute [local go_sem] max2_int min2_int max_two min_two max_three min_three max_four min_four   -- for this text's walks alone
set_option linter.unusedVariables false
set_option linter.unusedSimpArgs false
abbrev zq16_0 : Array Bool := #[false, false, false, false, false, false, false, false, false, false, false, false, false]
abbrev zq16_1 : Array Bool := #[true, false, false, false, false, false, false, false, false, false, false, false, false]
abbrev zq16_2 : Array Bool := #[true, true, false, false, false, false, false, false, false, false, false, false, false]
abbrev zq16_3 : Array Bool := #[true, true, true, false, false, false, false, false, false, false, false, false, false]
abbrev zq16_4 : Array Bool := #[true, true, true, true, false, false, false, false, false, false, false, false, false]
abbrev zq16_5 : Array Bool := #[true, true, true, true, true, false, false, false, false, false, false, false, false]
abbrev zq16_6 : Array Bool := #[true, true, true, true, true, true, true, true, true, true, true, false, false]
abbrev zq16_7 : Array Bool := #[true, true, true, true, true, true, true, true, true, false, false, false, false]
abbrev zq16_8 : Array Bool := #[true, true, true, true, true, true, true, true, true, true, false, false, false]
abbrev zq16_9 : Array Bool := #[true, true, true, true, true, true, true, true, true, true, true, true, false]
abbrev zq16_10 : Array Bool := #[true, true, true, true, true, true, true, true, true, true, true, true, true]
theorem zR16 {p q : Prop} (x : q) (h : q → p := by intro h; (with_reducible repeat (first | apply Kd.R_alloc | apply Kd.R_drewN | apply Kd.R_drew)); exact h) : p := h x
theorem zS16 {p q : Prop} (x : q) (h : q → p := by intro h; (with_reducible repeat (first | apply Kd.S_alloc | apply Kd.S_drewN | apply Kd.S_drew)); exact h) : p := h x
theorem zA16 {p : Prop} [Decidable p] (h : decide p = true := by first | (with_reducible assumption) | assumption) : p := of_decide_eq_true h
theorem zT16 {p : Prop} (h : p := by (try simp only [List.map_toArray, List.map_cons, List.map_nil]); first | done | rfl | (simp only [List.length_drop, List.length_take]; rfl)) : p := h
theorem zC16 {p q : Prop} (x : q) (h : q → p := by intro h; repeat (first | exact h | (with_reducible refine Kd.C_alloc ?_ _) | (with_reducible refine Kd.C_drewN ?_ _) | (with_reducible refine Kd.C_drew ?_))) : p := h x
theorem zV16 {a b : Act} (h : a = b := by simp only [Act.put, List.setIfInBounds_toArray, List.set_cons_zero, List.set_cons_succ, i64_w, i32_w]; rfl) : a = b := h
theorem zE16 {p : Prop} (h : p := by first | rfl | (simp [errW_none, errW_some] <;> rfl) | (simp [*, errW_none, errW_some] <;> rfl)) : p := h
theorem zB16_0 {p : Prop} (h : p := by repeat (first | (with_reducible first | exact HB.out | apply below_alloc | apply pw_below_drewN | apply below_drew1) | exact HB.out)) : p := h

/-! ### laws_FnResumes: function 4 -/
def laws_FnResumes.j0 : Nat → List Int → List (S47) → List Int → Int → List Int → List (S47) → Bool → Option (Bool)
 | 0, _, _, _, _, _, _, _ => none
 | k + 1, x3, x4, x5, x6, x9, x10, x59 => if x59 = true then (some false) else (if 0 ≤ x6 then (if x6 ≤ (x5.length : Int) then ((impl_FlatRun.f k x9 x10 (x5.drop (x6 : Int).toNat)).bind fun bt639 => ((impl_FlatRun.f k x3 x4 x5).bind fun bt645 => ((laws_sameInts.f k bt639.1 bt645.1).bind fun t651 => (if t651 = true then ((laws_sameHarts.f k bt639.2 bt645.2).bind fun t652 => (some t652)) else (some false))))) else (none)) else (none))
def laws_FnResumes.f (k : Nat) (l0 : List Int) : Option (Bool) := (laws_big.f l0).bind fun t598 => (if t598 = true then (some true) else ((spec_DrawSteps.f k l0).bind fun bt599 => ((laws_at.f l0 1).bind fun t608 => (if (wrap64 ((bt599.2.2.length : Int) + 1)) = 0 then (none) else (if 0 ≤ (Int.tmod t608 (wrap64 ((bt599.2.2.length : Int) + 1))) then (if (Int.tmod t608 (wrap64 ((bt599.2.2.length : Int) + 1))) ≤ (bt599.2.2.length : Int) then ((impl_FlatRun.f k bt599.1 bt599.2.1 (bt599.2.2.take ((Int.tmod t608 (wrap64 ((bt599.2.2.length : Int) + 1))) : Int).toNat)).bind fun bt613 => ((impl_SaveBytes.f k bt613.1 bt613.2).bind fun t619 => ((impl_SaveOf.f k t619).bind fun bt622 => (if bt622.2.2 = true then ((impl_SaveBytes.f k bt613.1 bt613.2).bind fun t629 => ((spec_SaveBytes.f k bt613.1 bt613.2).bind fun t632 => (laws_FnResumes.j0 k bt599.1 bt599.2.1 bt599.2.2 (Int.tmod t608 (wrap64 ((bt599.2.2.length : Int) + 1))) bt622.1 bt622.2.1 ((strOfNums t629).toList != (strOfNums t632).toList)))) else (laws_FnResumes.j0 k bt599.1 bt599.2.1 bt599.2.2 (Int.tmod t608 (wrap64 ((bt599.2.2.length : Int) + 1))) bt622.1 bt622.2.1 true))))) else (none)) else (none))))))
theorem laws_FnResumes.mono_l : ∀ k, (∀ y0 y1 y2 y3 y4 y5 y6, LeO (laws_FnResumes.j0 k y0 y1 y2 y3 y4 y5 y6) (laws_FnResumes.j0 (k + 1) y0 y1 y2 y3 y4 y5 y6))
 | 0 => fun _ _ _ _ _ _ _ r h => by simp [laws_FnResumes.j0] at h
 | k + 1 => by
  have ih0 := laws_FnResumes.mono_l k
  ·intro y0 y1 y2 y3 y4 y5 y6
   unfold laws_FnResumes.j0
   repeat' first
   | (with_reducible exact ih0 _ _ _ _ _ _ _)
   | (with_reducible exact impl_FlatRun.mono _ _ _ _)
   | (with_reducible exact impl_SaveBytes.mono _ _ _)
   | (with_reducible exact impl_SaveOf.mono _ _)
   | (with_reducible exact laws_sameHarts.mono _ _ _)
   | (with_reducible exact laws_sameInts.mono _ _ _)
   | (with_reducible exact spec_DrawSteps.mono _ _)
   | (with_reducible exact spec_SaveBytes.mono _ _ _)
   | (with_reducible exact LeO.refl _)
   | (with_reducible exact LeO.none _)
   | (with_reducible refine LeO.ite ?_ ?_)
   | (with_reducible refine LeO.bind ?_ (fun _ => ?_))
   | exact ih0 _ _ _ _ _ _ _
   | exact impl_FlatRun.mono _ _ _ _
   | exact impl_SaveBytes.mono _ _ _
   | exact impl_SaveOf.mono _ _
   | exact laws_sameHarts.mono _ _ _
   | exact laws_sameInts.mono _ _ _
   | exact spec_DrawSteps.mono _ _
   | exact spec_SaveBytes.mono _ _ _
   | exact LeO.none _
   | refine LeO.ite ?_ ?_
   | refine LeO.bind ?_ (fun _ => ?_)
theorem laws_FnResumes.mono : ∀ a0 k, LeO (laws_FnResumes.f k a0) (laws_FnResumes.f (k + 1) a0) := by
 intro a0 k
 have ih0 := laws_FnResumes.mono_l k
 unfold laws_FnResumes.f
 repeat' first
   | (with_reducible exact ih0 _ _ _ _ _ _ _)
   | (with_reducible exact impl_FlatRun.mono _ _ _ _)
   | (with_reducible exact impl_SaveBytes.mono _ _ _)
   | (with_reducible exact impl_SaveOf.mono _ _)
   | (with_reducible exact laws_sameHarts.mono _ _ _)
   | (with_reducible exact laws_sameInts.mono _ _ _)
   | (with_reducible exact spec_DrawSteps.mono _ _)
   | (with_reducible exact spec_SaveBytes.mono _ _ _)
   | (with_reducible exact LeO.refl _)
   | (with_reducible exact LeO.none _)
   | (with_reducible refine LeO.ite ?_ ?_)
   | (with_reducible refine LeO.bind ?_ (fun _ => ?_))
   | exact ih0 _ _ _ _ _ _ _
   | exact impl_FlatRun.mono _ _ _ _
   | exact impl_SaveBytes.mono _ _ _
   | exact impl_SaveOf.mono _ _
   | exact laws_sameHarts.mono _ _ _
   | exact laws_sameInts.mono _ _ _
   | exact spec_DrawSteps.mono _ _
   | exact spec_SaveBytes.mono _ _ _
   | exact LeO.none _
   | refine LeO.ite ?_ ?_
   | refine LeO.bind ?_ (fun _ => ?_)
def laws_FnResumes.T7 : Bool × List (List Nat × List Nat) := (true, [([], []), ([0], [0]), ([1], [1]), ([2], [2]), ([2], [2]), ([3, 4, 2, 2], [2, 3, 4]), ([5, 2], [2, 5]), ([2], [2]), ([2], [2]), ([7, 8, 5, 2], [2, 7, 8]), ([9, 2], [2, 9]), ([6, 10, 2], [2, 6, 10]), ([2, 11], [2, 11])])
def laws_FnResumes.B7 : List Nat := [0, 1, 3, 7, 7, 31, 63, 7, 7, 447, 959, 2047, 4095]
theorem laws_FnResumes.tab7 : rtab .any (opsOf Try.f4 7) = laws_FnResumes.T7 := by kernel_rfl
theorem laws_FnResumes.bits7 : waitsOk laws_FnResumes.T7.2 laws_FnResumes.B7 = true := by kernel_rfl
set_option maxHeartbeats 8000000 in
set_option maxRecDepth 100000 in
theorem laws_FnResumes.calls (k : Nat) (A0 : Option Addr) (c0 : Nat) (l0 : List Int) (r : Bool) (w : World) (hr0 : Kd.C (Kd.int .u8) w A0 l0.length l0) (hc0 : l0.length ≤ c0) (h : laws_FnResumes.f k l0 = some r) :
  Calls Try.prog 4 #[.slice A0 l0.length c0] w fun e w' => e = .returned (.bool r) ∧ Below w.heap.size w w' := by
 have HR0 := Aside0.mk hr0
 have HC0 := Aside0.mk hc0
 clear hr0 hc0
 have HB := Aside0.mk (Below.refl w.heap.size w)
 have H : ((laws_big.f l0).bind fun t598 => (if t598 = true then (some true) else ((spec_DrawSteps.f k l0).bind fun bt599 => ((laws_at.f l0 1).bind fun t608 => (if (wrap64 ((bt599.2.2.length : Int) + 1)) = 0 then (none) else (if 0 ≤ (Int.tmod t608 (wrap64 ((bt599.2.2.length : Int) + 1))) then (if (Int.tmod t608 (wrap64 ((bt599.2.2.length : Int) + 1))) ≤ (bt599.2.2.length : Int) then ((impl_FlatRun.f k bt599.1 bt599.2.1 (bt599.2.2.take ((Int.tmod t608 (wrap64 ((bt599.2.2.length : Int) + 1))) : Int).toNat)).bind fun bt613 => ((impl_SaveBytes.f k bt613.1 bt613.2).bind fun t619 => ((impl_SaveOf.f k t619).bind fun bt622 => (if bt622.2.2 = true then ((impl_SaveBytes.f k bt613.1 bt613.2).bind fun t629 => ((spec_SaveBytes.f k bt613.1 bt613.2).bind fun t632 => (laws_FnResumes.j0 k bt599.1 bt599.2.1 bt599.2.2 (Int.tmod t608 (wrap64 ((bt599.2.2.length : Int) + 1))) bt622.1 bt622.2.1 ((strOfNums t629).toList != (strOfNums t632).toList)))) else (laws_FnResumes.j0 k bt599.1 bt599.2.1 bt599.2.2 (Int.tmod t608 (wrap64 ((bt599.2.2.length : Int) + 1))) bt622.1 bt622.2.1 true))))) else (none)) else (none))))))) = some r := h
 clear h
 replace H := Option.bind_eq_some_iff.mp H
 obtain ⟨t598, A20, H⟩ := H
 replace H : (if t598 = true then (some true) else ((spec_DrawSteps.f k l0).bind fun bt599 => ((laws_at.f l0 1).bind fun t608 => (if (wrap64 ((bt599.2.2.length : Int) + 1)) = 0 then (none) else (if 0 ≤ (Int.tmod t608 (wrap64 ((bt599.2.2.length : Int) + 1))) then (if (Int.tmod t608 (wrap64 ((bt599.2.2.length : Int) + 1))) ≤ (bt599.2.2.length : Int) then ((impl_FlatRun.f k bt599.1 bt599.2.1 (bt599.2.2.take ((Int.tmod t608 (wrap64 ((bt599.2.2.length : Int) + 1))) : Int).toNat)).bind fun bt613 => ((impl_SaveBytes.f k bt613.1 bt613.2).bind fun t619 => ((impl_SaveOf.f k t619).bind fun bt622 => (if bt622.2.2 = true then ((impl_SaveBytes.f k bt613.1 bt613.2).bind fun t629 => ((spec_SaveBytes.f k bt613.1 bt613.2).bind fun t632 => (laws_FnResumes.j0 k bt599.1 bt599.2.1 bt599.2.2 (Int.tmod t608 (wrap64 ((bt599.2.2.length : Int) + 1))) bt622.1 bt622.2.1 ((strOfNums t629).toList != (strOfNums t632).toList)))) else (laws_FnResumes.j0 k bt599.1 bt599.2.1 bt599.2.2 (Int.tmod t608 (wrap64 ((bt599.2.2.length : Int) + 1))) bt622.1 bt622.2.1 true))))) else (none)) else (none)))))) = some r := H
 have A2 := Aside0.mk A20
 clear A20
 by_cases c3 : t598 = true
 ·subst c3
  have H1 : (some true) = some r := by rw [if_pos rfl] at H; exact H
  clear H
  have H := H1
  clear H1
  obtain rfl := Option.some.inj H
  go_enter Try.func4, Try.ntmps4
  go_wp2_with (first | ((with_reducible refine gate_callee (f := 6) rfl ?_); refine goesL_ (some 17) rfl rfl Try.func6 (by kernel_rfl) rfl #[.slice A0 l0.length c0] rfl zT16 ?_; (with_reducible refine (laws_big.calls _ _ l0 true _ ?side1 ?side2 A2.out).mono ?_); (case side1 => exact zC16 HR0.out); (case side2 => exact HC0.out); rintro e w' ⟨rfl, ⟨nd, rfl⟩⟩; refine ⟨_, rfl, ?_⟩))
  go_ret
  exact ⟨zE16, zB16_0⟩
 replace c3 := Bool.eq_false_iff.mpr c3
 subst c3
 have H1 : ((spec_DrawSteps.f k l0).bind fun bt599 => ((laws_at.f l0 1).bind fun t608 => (if (wrap64 ((bt599.2.2.length : Int) + 1)) = 0 then (none) else (if 0 ≤ (Int.tmod t608 (wrap64 ((bt599.2.2.length : Int) + 1))) then (if (Int.tmod t608 (wrap64 ((bt599.2.2.length : Int) + 1))) ≤ (bt599.2.2.length : Int) then ((impl_FlatRun.f k bt599.1 bt599.2.1 (bt599.2.2.take ((Int.tmod t608 (wrap64 ((bt599.2.2.length : Int) + 1))) : Int).toNat)).bind fun bt613 => ((impl_SaveBytes.f k bt613.1 bt613.2).bind fun t619 => ((impl_SaveOf.f k t619).bind fun bt622 => (if bt622.2.2 = true then ((impl_SaveBytes.f k bt613.1 bt613.2).bind fun t629 => ((spec_SaveBytes.f k bt613.1 bt613.2).bind fun t632 => (laws_FnResumes.j0 k bt599.1 bt599.2.1 bt599.2.2 (Int.tmod t608 (wrap64 ((bt599.2.2.length : Int) + 1))) bt622.1 bt622.2.1 ((strOfNums t629).toList != (strOfNums t632).toList)))) else (laws_FnResumes.j0 k bt599.1 bt599.2.1 bt599.2.2 (Int.tmod t608 (wrap64 ((bt599.2.2.length : Int) + 1))) bt622.1 bt622.2.1 true))))) else (none)) else (none))))) = some r := by rw [if_neg (show ¬ (false = true) by decide)] at H; exact H
 clear H
 have H := H1
 clear H1
 replace H := Option.bind_eq_some_iff.mp H
 obtain ⟨⟨t599, t600, t601⟩, A40, H⟩ := H
 replace H : ((laws_at.f l0 1).bind fun t608 => (if (wrap64 ((t601.length : Int) + 1)) = 0 then (none) else (if 0 ≤ (Int.tmod t608 (wrap64 ((t601.length : Int) + 1))) then (if (Int.tmod t608 (wrap64 ((t601.length : Int) + 1))) ≤ (t601.length : Int) then ((impl_FlatRun.f k t599 t600 (t601.take ((Int.tmod t608 (wrap64 ((t601.length : Int) + 1))) : Int).toNat)).bind fun bt613 => ((impl_SaveBytes.f k bt613.1 bt613.2).bind fun t619 => ((impl_SaveOf.f k t619).bind fun bt622 => (if bt622.2.2 = true then ((impl_SaveBytes.f k bt613.1 bt613.2).bind fun t629 => ((spec_SaveBytes.f k bt613.1 bt613.2).bind fun t632 => (laws_FnResumes.j0 k t599 t600 t601 (Int.tmod t608 (wrap64 ((t601.length : Int) + 1))) bt622.1 bt622.2.1 ((strOfNums t629).toList != (strOfNums t632).toList)))) else (laws_FnResumes.j0 k t599 t600 t601 (Int.tmod t608 (wrap64 ((t601.length : Int) + 1))) bt622.1 bt622.2.1 true))))) else (none)) else (none)))) = some r := H
 have A4 := Aside0.mk A40
 clear A40
 replace H := Option.bind_eq_some_iff.mp H
 obtain ⟨t608, A50, H⟩ := H
 replace H : (if (wrap64 ((t601.length : Int) + 1)) = 0 then (none) else (if 0 ≤ (Int.tmod t608 (wrap64 ((t601.length : Int) + 1))) then (if (Int.tmod t608 (wrap64 ((t601.length : Int) + 1))) ≤ (t601.length : Int) then ((impl_FlatRun.f k t599 t600 (t601.take ((Int.tmod t608 (wrap64 ((t601.length : Int) + 1))) : Int).toNat)).bind fun bt613 => ((impl_SaveBytes.f k bt613.1 bt613.2).bind fun t619 => ((impl_SaveOf.f k t619).bind fun bt622 => (if bt622.2.2 = true then ((impl_SaveBytes.f k bt613.1 bt613.2).bind fun t629 => ((spec_SaveBytes.f k bt613.1 bt613.2).bind fun t632 => (laws_FnResumes.j0 k t599 t600 t601 (Int.tmod t608 (wrap64 ((t601.length : Int) + 1))) bt622.1 bt622.2.1 ((strOfNums t629).toList != (strOfNums t632).toList)))) else (laws_FnResumes.j0 k t599 t600 t601 (Int.tmod t608 (wrap64 ((t601.length : Int) + 1))) bt622.1 bt622.2.1 true))))) else (none)) else (none))) = some r := H
 have A5 := Aside0.mk A50
 clear A50
 by_cases c6 : (wrap64 ((t601.length : Int) + 1)) = 0
 ·rw [if_pos c6] at H
  exact absurd H (by simp)
 rw [if_neg c6] at H
 have c6b0 : ((wrap64 ((t601.length : Int) + 1)) == 0) = false := beq_eq_false_iff_ne.mpr c6
 have c6b1 : ((wrap64 ((t601.length : Int) + 1)) != 0) = true := bne_iff_ne.mpr c6
 obtain ⟨ji7, hji7⟩ : ∃ j_ : Int, (Int.tmod t608 (wrap64 ((t601.length : Int) + 1))) = j_ := ⟨_, rfl⟩
 replace H : (if 0 ≤ (ji7) then (if (ji7) ≤ (t601.length : Int) then ((impl_FlatRun.f k t599 t600 (t601.take ((ji7) : Int).toNat)).bind fun bt613 => ((impl_SaveBytes.f k bt613.1 bt613.2).bind fun t619 => ((impl_SaveOf.f k t619).bind fun bt622 => (if bt622.2.2 = true then ((impl_SaveBytes.f k bt613.1 bt613.2).bind fun t629 => ((spec_SaveBytes.f k bt613.1 bt613.2).bind fun t632 => (laws_FnResumes.j0 k t599 t600 t601 ji7 bt622.1 bt622.2.1 ((strOfNums t629).toList != (strOfNums t632).toList)))) else (laws_FnResumes.j0 k t599 t600 t601 ji7 bt622.1 bt622.2.1 true))))) else (none)) else (none)) = some r := by first | (rw [hji7] at H; exact H) | (simp only [hji7] at H ⊢; exact H)
 (try rw [hji7] at A2)
 (try rw [hji7] at A4)
 (try rw [hji7] at A5)
 by_cases c8 : 0 ≤ (ji7)
 rotate_left
 ·rw [if_neg c8] at H
  exact absurd H (by simp)
 rw [if_pos c8] at H
 have c8b0 := eq_true c8
 have c8b1 : decide (0 ≤ (ji7)) = true := decide_eq_true c8
 clear c8
 by_cases c9 : (ji7) ≤ (t601.length : Int)
 rotate_left
 ·rw [if_neg c9] at H
  exact absurd H (by simp)
 rw [if_pos c9] at H
 have c9b0 := eq_true c9
 have c9b1 : decide ((ji7) ≤ (t601.length : Int)) = true := decide_eq_true c9
 clear c9
 obtain ⟨y609, hy609⟩ : ∃ y_ : List Int, y_ = (t601.take ((ji7) : Int).toNat) := ⟨_, rfl⟩
 replace H : ((impl_FlatRun.f k t599 t600 y609).bind fun bt613 => ((impl_SaveBytes.f k bt613.1 bt613.2).bind fun t619 => ((impl_SaveOf.f k t619).bind fun bt622 => (if bt622.2.2 = true then ((impl_SaveBytes.f k bt613.1 bt613.2).bind fun t629 => ((spec_SaveBytes.f k bt613.1 bt613.2).bind fun t632 => (laws_FnResumes.j0 k t599 t600 t601 ji7 bt622.1 bt622.2.1 ((strOfNums t629).toList != (strOfNums t632).toList)))) else (laws_FnResumes.j0 k t599 t600 t601 ji7 bt622.1 bt622.2.1 true))))) = some r := by first | (rw [hy609]; with_reducible exact H) | (have H2_ := (Option.bind_some _ _).symm.trans H; rw [hy609]; with_reducible exact H2_) | (have H2_ := (Option.bind_some _ _).symm.trans H; with_reducible exact H2_) | with_reducible exact H | (rw [hy609]; exact H) | exact H
 have Ny609 := Aside0.mk hy609
 clear hy609
 replace H := Option.bind_eq_some_iff.mp H
 obtain ⟨⟨t613, t614⟩, A100, H⟩ := H
 replace H : ((impl_SaveBytes.f k t613 t614).bind fun t619 => ((impl_SaveOf.f k t619).bind fun bt622 => (if bt622.2.2 = true then ((impl_SaveBytes.f k t613 t614).bind fun t629 => ((spec_SaveBytes.f k t613 t614).bind fun t632 => (laws_FnResumes.j0 k t599 t600 t601 ji7 bt622.1 bt622.2.1 ((strOfNums t629).toList != (strOfNums t632).toList)))) else (laws_FnResumes.j0 k t599 t600 t601 ji7 bt622.1 bt622.2.1 true)))) = some r := H
 have A10 := Aside0.mk A100
 clear A100
 replace H := Option.bind_eq_some_iff.mp H
 obtain ⟨t619, A110, H⟩ := H
 replace H : ((impl_SaveOf.f k t619).bind fun bt622 => (if bt622.2.2 = true then ((impl_SaveBytes.f k t613 t614).bind fun t629 => ((spec_SaveBytes.f k t613 t614).bind fun t632 => (laws_FnResumes.j0 k t599 t600 t601 ji7 bt622.1 bt622.2.1 ((strOfNums t629).toList != (strOfNums t632).toList)))) else (laws_FnResumes.j0 k t599 t600 t601 ji7 bt622.1 bt622.2.1 true))) = some r := H
 have A11 := Aside0.mk A110
 clear A110
 replace H := Option.bind_eq_some_iff.mp H
 obtain ⟨⟨t622, t623, t624⟩, A120, H⟩ := H
 replace H : (if t624 = true then ((impl_SaveBytes.f k t613 t614).bind fun t629 => ((spec_SaveBytes.f k t613 t614).bind fun t632 => (laws_FnResumes.j0 k t599 t600 t601 ji7 t622 t623 ((strOfNums t629).toList != (strOfNums t632).toList)))) else (laws_FnResumes.j0 k t599 t600 t601 ji7 t622 t623 true)) = some r := H
 have A12 := Aside0.mk A120
 clear A120
 have HC13 := Aside0.mk H
 clear H
 go_enter Try.func4, Try.ntmps4
 go_upto_region 7 with (first | ((with_reducible refine gate_callee (f := 6) rfl ?_); refine goesL_ (some 17) rfl rfl Try.func6 (by kernel_rfl) rfl #[.slice A0 l0.length c0] rfl zT16 ?_; (with_reducible refine (laws_big.calls _ _ l0 false _ ?side1 ?side2 A2.out).mono ?_); (case side1 => exact zC16 HR0.out); (case side2 => exact HC0.out); rintro e w' ⟨rfl, ⟨nd, rfl⟩⟩; refine ⟨_, rfl, ?_⟩) | ((with_reducible refine gate_callee (f := 24) rfl ?_); refine goesL_ (some 20) rfl rfl Try.func24 (by kernel_rfl) rfl #[.slice A0 l0.length c0] rfl zT16 ?_; (with_reducible refine (spec_DrawSteps.calls k _ _ l0 t599 t600 t601 _ ?side1 ?side2 A4.out).mono ?_); (case side1 => exact zC16 HR0.out); (case side2 => exact HC0.out); rintro e w14 ⟨v602, v604, v606, rfl, ho0, ho1, ho2, hb⟩; refine ⟨_, rfl, ?_⟩; have n0_ := Aside0.mk (Kd.R_lower ho0 (below_size (zB16_0))); have n1_ := Aside0.mk (Kd.S_lower ho1 (below_size (zB16_0))); have n2_ := Aside0.mk (Kd.R_lower ho2 (below_size (zB16_0))); have n3_ := Aside0.mk (below_step (zB16_0) hb); clear HB; have HO603 := n0_; have HO605 := n1_; have HO607 := n2_; have HB := n3_; clear n0_ n1_ n2_ n3_; (try clear hb); (try clear hb2); (try clear hk); (try clear hi); (try clear ho0); (try clear ho1); (try clear ho2)) | ((with_reducible refine gate_callee (f := 25) rfl ?_); refine goesL_ (some 25) rfl rfl Try.func25 (by kernel_rfl) rfl #[.slice A0 l0.length c0, .int .i64 1] rfl zT16 ?_; (with_reducible refine (laws_at.calls _ _ l0 1 t608 _ ?side1 ?side2 A5.out).mono ?_); (case side1 => exact zC16 (Kd.C_below HR0.out HB.out)); (case side2 => exact HC0.out); rintro e w' ⟨rfl, ⟨nd, rfl⟩⟩; refine ⟨_, rfl, ?_⟩; obtain ⟨Ao15, co15, eo15⟩ := Kd.R_slice HO607.out; subst eo15; have q16 : ((ji7) : Int) ≤ ((t601.length : Int) : Int) := zA16; obtain ⟨i016, hi016, _, hsz16, _⟩ := info_parts info3; have hroom16 : t601.length ≤ co15 := (Kd.R_reads' HO607.out).2.1; have hC16 : Kd.C (Kd.int .i64) _ Ao15 t601.length t601 := (Kd.R_reads' HO607.out).2.2; have hcut16 := cut_to (P := Try.prog) 24 3 .i64 Try.underlying24 hi016 Ao15 t601.length co15 (ji7) (zA16) q16 hroom16; have hr16 := Kd.C_take (m := ((ji7) : Int).toNat) hC16 (by omega); have hy16 : y609.length = ((ji7) : Int).toNat := (by rw [Ny609.out, List.length_take]; omega); rw [← Ny609.out] at hr16; rw [← hy16] at hcut16; have HR612 := Aside0.mk hr16; have HC612 := Aside0.mk (show y609.length ≤ co15 from by omega); clear hr16 hC16 hroom16 hi016 hsz16; have KY16 := Aside0.mk hy16; clear hy16; have KL16 := Aside0.mk (show ((ji7) : Int).toNat ≤ t601.length from by omega); replace q16 := eq_true q16; obtain ⟨Ao17, co17, eo17⟩ := Kd.R_slice HO603.out; subst eo17; obtain ⟨Ao18, co18, eo18⟩ := Kd.S_slice HO605.out; subst eo18) | ((with_reducible refine gate_callee (f := 26) rfl ?_); refine goesL_ (some 36) rfl rfl Try.func26 (by kernel_rfl) rfl #[.slice Ao17 t599.length co17, .slice Ao18 t600.length co18, .slice Ao15 y609.length co15] rfl zT16 ?_; (with_reducible refine (impl_FlatRun.calls k _ _ t599 _ _ t600 _ _ y609 t613 t614 _ ?side1 ?side2 ?side3 ?side4 ?side5 ?side6 A10.out).mono ?_); (case side1 => exact zC16 (Kd.R_reads' HO603.out).2.2); (case side2 => exact (Kd.R_reads' HO603.out).2.1); (case side3 => exact zC16 (Kd.S_reads' HO605.out).2.2); (case side4 => exact (Kd.S_reads' HO605.out).2.1); (case side5 => exact zC16 HR612.out); (case side6 => exact HC612.out); rintro e w19 ⟨v615, v617, rfl, ho0, ho1, hb⟩; refine ⟨_, rfl, ?_⟩; have n0_ := Aside0.mk (Kd.R_elder' (zR16 HO603.out) (Kd.R_base ho0) hb); have n1_ := Aside0.mk (Kd.S_mono (Kd.S_told (Kd.S_told (Kd.S_old (zS16 HO605.out) hb) (Kd.R_base ho0)) (Kd.S_base ho1)) (fun _ h_ => h_.1)); have n2_ := Aside0.mk (Kd.R_elder' (zR16 HO607.out) (Kd.R_base ho0) hb); have n3_ := Aside0.mk (Kd.R_lower (Kd.R_new' (Kd.R_new' ho0 (Kd.R_lt (zR16 HO603.out))) (Kd.R_lt (zR16 HO607.out))) (below_size (zB16_0))); have n4_ := Aside0.mk (Kd.S_lower (Kd.S_new' (Kd.S_new' (Kd.S_new' ho1 (Kd.R_lt (zR16 HO603.out))) (Kd.S_lt (zS16 HO605.out))) (Kd.R_lt (zR16 HO607.out))) (below_size (zB16_0))); have n5_ := Aside0.mk (Kd.C_below (by repeat (first | (with_reducible exact HR612.out) | (with_reducible refine Kd.C_alloc ?_ _) | (with_reducible refine Kd.C_drewN ?_ _) | (with_reducible refine Kd.C_drew ?_) | exact HR612.out)) hb); have n6_ := Aside0.mk (below_step (zB16_0) hb); clear HO603; clear HO605; clear HO607; clear HR612; clear HB; have HO603 := n0_; have HO605 := n1_; have HO607 := n2_; have HO616 := n3_; have HO618 := n4_; have HR612 := n5_; have HB := n6_; clear n0_ n1_ n2_ n3_ n4_ n5_ n6_; (try clear hb); (try clear hb2); (try clear hk); (try clear hi); (try clear ho0); (try clear ho1); obtain ⟨Ao20, co20, eo20⟩ := Kd.R_slice HO616.out; subst eo20; obtain ⟨Ao21, co21, eo21⟩ := Kd.S_slice HO618.out; subst eo21) | ((with_reducible refine gate_callee (f := 28) rfl ?_); refine goesL_ (some 42) rfl rfl Try.func28 (by kernel_rfl) rfl #[.slice Ao20 t613.length co20, .slice Ao21 t614.length co21] rfl zT16 ?_; (with_reducible refine (impl_SaveBytes.calls k _ _ t613 _ _ t614 t619 _ ?side1 ?side2 ?side3 ?side4 A11.out).mono ?_); (case side1 => exact zC16 (Kd.R_reads' HO616.out).2.2); (case side2 => exact (Kd.R_reads' HO616.out).2.1); (case side3 => exact zC16 (Kd.S_reads' HO618.out).2.2); (case side4 => exact (Kd.S_reads' HO618.out).2.1); rintro e w22 ⟨v620, rfl, ho0, hb⟩; refine ⟨_, rfl, ?_⟩; have n0_ := Aside0.mk (Kd.R_below (zR16 HO603.out) hb); have n1_ := Aside0.mk (Kd.S_below (zS16 HO605.out) hb); have n2_ := Aside0.mk (Kd.R_below (zR16 HO607.out) hb); have n3_ := Aside0.mk (Kd.R_below (zR16 HO616.out) hb); have n4_ := Aside0.mk (Kd.S_below (zS16 HO618.out) hb); have n5_ := Aside0.mk (Kd.R_lower ho0 (below_size (zB16_0))); have n6_ := Aside0.mk (Kd.C_below (by repeat (first | (with_reducible exact HR612.out) | (with_reducible refine Kd.C_alloc ?_ _) | (with_reducible refine Kd.C_drewN ?_ _) | (with_reducible refine Kd.C_drew ?_) | exact HR612.out)) hb); have n7_ := Aside0.mk (below_step (zB16_0) hb); clear HO603; clear HO605; clear HO607; clear HO616; clear HO618; clear HR612; clear HB; have HO603 := n0_; have HO605 := n1_; have HO607 := n2_; have HO616 := n3_; have HO618 := n4_; have HO621 := n5_; have HR612 := n6_; have HB := n7_; clear n0_ n1_ n2_ n3_ n4_ n5_ n6_ n7_; (try clear hb); (try clear hb2); (try clear hk); (try clear hi); (try clear ho0); obtain ⟨Ao23, co23, eo23⟩ := Kd.R_slice HO621.out; subst eo23) | ((with_reducible refine gate_callee (f := 27) rfl ?_); refine goesL_ (some 43) rfl rfl Try.func27 (by kernel_rfl) rfl #[.slice Ao23 t619.length co23] rfl zT16 ?_; (with_reducible refine (impl_SaveOf.calls k _ _ t619 t622 t623 t624 _ ?side1 ?side2 A12.out).mono ?_); (case side1 => exact zC16 (Kd.R_reads' HO621.out).2.2); (case side2 => exact (Kd.R_reads' HO621.out).2.1); rintro e w24 ⟨v625, v627, rfl, ho0, ho1, hb⟩; refine ⟨_, rfl, ?_⟩; have n0_ := Aside0.mk (Kd.R_elder' (zR16 HO603.out) (Kd.R_base ho0) hb); have n1_ := Aside0.mk (Kd.S_mono (Kd.S_told (Kd.S_told (Kd.S_old (zS16 HO605.out) hb) (Kd.R_base ho0)) (Kd.S_base ho1)) (fun _ h_ => h_.1)); have n2_ := Aside0.mk (Kd.R_elder' (zR16 HO607.out) (Kd.R_base ho0) hb); have n3_ := Aside0.mk (Kd.R_elder' (zR16 HO616.out) (Kd.R_base ho0) hb); have n4_ := Aside0.mk (Kd.S_mono (Kd.S_told (Kd.S_told (Kd.S_old (zS16 HO618.out) hb) (Kd.R_base ho0)) (Kd.S_base ho1)) (fun _ h_ => h_.1)); have n5_ := Aside0.mk (Kd.R_below (zR16 HO621.out) hb); have n6_ := Aside0.mk (Kd.R_lower (Kd.R_new' (Kd.R_new' (Kd.R_new' ho0 (Kd.R_lt (zR16 HO603.out))) (Kd.R_lt (zR16 HO607.out))) (Kd.R_lt (zR16 HO616.out))) (below_size (zB16_0))); have n7_ := Aside0.mk (Kd.S_lower (Kd.S_new' (Kd.S_new' (Kd.S_new' (Kd.S_new' (Kd.S_new' ho1 (Kd.R_lt (zR16 HO603.out))) (Kd.S_lt (zS16 HO605.out))) (Kd.R_lt (zR16 HO607.out))) (Kd.R_lt (zR16 HO616.out))) (Kd.S_lt (zS16 HO618.out))) (below_size (zB16_0))); have n8_ := Aside0.mk (Kd.C_below (by repeat (first | (with_reducible exact HR612.out) | (with_reducible refine Kd.C_alloc ?_ _) | (with_reducible refine Kd.C_drewN ?_ _) | (with_reducible refine Kd.C_drew ?_) | exact HR612.out)) hb); have n9_ := Aside0.mk (below_step (zB16_0) hb); clear HO603; clear HO605; clear HO607; clear HO616; clear HO618; clear HO621; clear HR612; clear HB; have HO603 := n0_; have HO605 := n1_; have HO607 := n2_; have HO616 := n3_; have HO618 := n4_; have HO621 := n5_; have HO626 := n6_; have HO628 := n7_; have HR612 := n8_; have HB := n9_; clear n0_ n1_ n2_ n3_ n4_ n5_ n6_ n7_ n8_ n9_; (try clear hb); (try clear hb2); (try clear hk); (try clear hi); (try clear ho0); (try clear ho1)))
 (try simp only [Act.put, List.setIfInBounds_toArray, List.set_cons_zero, List.set_cons_succ])
 go_cut [59] (fun v59 wc => ∃ (kq : Nat) (x59_12 : Bool), v59 = .bool x59_12 ∧ Aside0 (laws_FnResumes.j0 kq t599 t600 t601 ji7 t622 t623 x59_12 = some r) ∧ Aside0 (kq ≤ k) ∧ Aside0 (Kd.R (Kd.int .i64) 3 wc w.heap.size (fun k_ => some k_ ≠ ((.slice Ao15 t601.length co15) : Value).ownBlock ∧ some k_ ≠ (v625 : Value).ownBlock) (.slice Ao17 t599.length co17) t599) ∧ Aside0 (Kd.S k47 47 wc w.heap.size (fun k_ => some k_ ≠ ((.slice Ao17 t599.length co17) : Value).ownBlock ∧ some k_ ≠ ((.slice Ao15 t601.length co15) : Value).ownBlock ∧ some k_ ≠ (v625 : Value).ownBlock ∧ some k_ ≠ (v627 : Value).ownBlock) (.slice Ao18 t600.length co18) t600) ∧ Aside0 (Kd.R (Kd.int .i64) 3 wc w.heap.size (fun k_ => some k_ ≠ ((.slice Ao17 t599.length co17) : Value).ownBlock ∧ some k_ ≠ (v625 : Value).ownBlock) (.slice Ao15 t601.length co15) t601) ∧ Aside0 (Kd.R (Kd.int .i64) 3 wc w.heap.size (fun k_ => some k_ ≠ ((.slice Ao17 t599.length co17) : Value).ownBlock ∧ some k_ ≠ ((.slice Ao15 t601.length co15) : Value).ownBlock) v625 t622) ∧ Aside0 (Kd.S k47 47 wc w.heap.size (fun k_ => some k_ ≠ ((.slice Ao17 t599.length co17) : Value).ownBlock ∧ some k_ ≠ ((.slice Ao18 t600.length co18) : Value).ownBlock ∧ some k_ ≠ ((.slice Ao15 t601.length co15) : Value).ownBlock ∧ some k_ ≠ (v625 : Value).ownBlock) v627 t623) ∧ Aside0 (Below w.heap.size w wc))
 case first =>
  have H := HC13.out
  clear HC13
  by_cases c25 : t624 = true
  rotate_left
  ·replace c25 := Bool.eq_false_iff.mpr c25
   subst c25
   have H1 : (laws_FnResumes.j0 k t599 t600 t601 ji7 t622 t623 true) = some r := by rw [if_neg (show ¬ (false = true) by decide)] at H; exact H
   clear H
   have H := H1
   clear H1
   have H' := Aside0.mk H
   clear H
   try go_wp2
   have n0_ := Aside0.mk (Kd.R_drew HO603.out)
   have n1_ := Aside0.mk (Kd.S_drew HO605.out)
   have n2_ := Aside0.mk (Kd.R_drew HO607.out)
   have n3_ := Aside0.mk (Kd.R_drew HO616.out)
   have n4_ := Aside0.mk (Kd.S_drew HO618.out)
   have n5_ := Aside0.mk (Kd.R_drew HO621.out)
   have n6_ := Aside0.mk (Kd.R_drew HO626.out)
   have n7_ := Aside0.mk (Kd.S_drew HO628.out)
   have n8_ := Aside0.mk (Kd.C_drew HR612.out)
   have n9_ := Aside0.mk (below_drew1 HB.out)
   clear HO603 HO605 HO607 HO616 HO618 HO621 HO626 HO628 HR612 HB
   have HO603 := n0_
   have HO605 := n1_
   have HO607 := n2_
   have HO616 := n3_
   have HO618 := n4_
   have HO621 := n5_
   have HO626 := n6_
   have HO628 := n7_
   have HR612 := n8_
   have HB := n9_
   clear n0_ n1_ n2_ n3_ n4_ n5_ n6_ n7_ n8_ n9_
   refine start_ (n := 13) (S := fun w' => True) (ds := []) zq16_0 (by kernel_rfl) rfl rfl trivial (fun hHeld => ?_); refine with_tabW laws_FnResumes.tab7 laws_FnResumes.bits7 (fun HT_ HW_ => ?_)
   generalize w24.drew = w34 at HO603 HO605 HO607 HO616 HO618 HO621 HO626 HO628 HR612 HB hHeld ⊢
   refine pure_ (i := 0) (N := some 47) (v := ?_) (a' := ?_) zq16_1 rfl rfl (any_of HT_.out (by kernel_rfl)) (fun _ _ _ h => h) (Or.inl ⟨by rfl, ?_⟩) ?_ ?_
   rotate_left
   ·intro w'
    go_simp
    with_reducible rfl
   rotate_left
   ·exact zV16
   refine pure_ (i := 1) (N := some 48) (v := ?_) (a' := ?_) zq16_2 rfl rfl (any_of HT_.out (by kernel_rfl)) (fun _ _ _ h => h) (Or.inl ⟨by rfl, ?_⟩) ?_ ?_
   rotate_left
   ·intro w'
    go_simp
    with_reducible rfl
   rotate_left
   ·exact zV16
   refine pure_ (i := 2) (N := some 49) (v := ?_) (a' := ?_) zq16_3 rfl rfl (any_of HT_.out (by kernel_rfl)) (fun _ _ _ h => h) (Or.inl ⟨by rfl, ?_⟩) ?_ ?_
   rotate_left
   ·intro w'
    go_simp
    with_reducible rfl
   rotate_left
   ·exact zV16
   refine pure_ (i := 3) (N := some 50) (v := undef) (a' := ?_) zq16_4 rfl rfl (any_of HT_.out (by kernel_rfl)) (fun _ _ _ h => h) (Or.inr ⟨by rfl, rfl⟩) ?_ ?_
   rotate_left
   ·exact zV16
   refine pure_ (i := 4) (N := some 51) (v := undef) (a' := ?_) zq16_5 rfl rfl (any_of HT_.out (by kernel_rfl)) (fun _ _ _ h => h) (Or.inr ⟨by rfl, rfl⟩) ?_ ?_
   rotate_left
   ·exact zV16
   refine pure_ (i := 5) (N := some 52) (v := undef) (a' := ?_) #[true, true, true, true, true, true, false, false, false, false, false, false, false] rfl rfl (any_of HT_.out (by kernel_rfl)) (fun _ _ _ h => h) (Or.inr ⟨by rfl, rfl⟩) ?_ ?_
   rotate_left
   ·exact zV16
   refine pure_ (i := 6) (N := some 53) (v := undef) (a' := ?_) #[true, true, true, true, true, true, true, false, false, false, false, false, false] rfl rfl (any_of HT_.out (by kernel_rfl)) (fun _ _ _ h => h) (Or.inr ⟨by rfl, rfl⟩) ?_ ?_
   rotate_left
   ·exact zV16
   refine pure_ (i := 7) (N := some 54) (v := undef) (a' := ?_) #[true, true, true, true, true, true, true, true, false, false, false, false, false] rfl rfl (any_of HT_.out (by kernel_rfl)) (fun _ _ _ h => h) (Or.inr ⟨by rfl, rfl⟩) ?_ ?_
   rotate_left
   ·exact zV16
   refine pure_ (i := 8) (N := some 55) (v := undef) (a' := ?_) zq16_7 rfl rfl (any_of HT_.out (by kernel_rfl)) (fun _ _ _ h => h) (Or.inr ⟨by rfl, rfl⟩) ?_ ?_
   rotate_left
   ·exact zV16
   refine pure_ (i := 9) (N := some 56) (v := undef) (a' := ?_) zq16_8 rfl rfl (any_of HT_.out (by kernel_rfl)) (fun _ _ _ h => h) (Or.inr ⟨by rfl, rfl⟩) ?_ ?_
   rotate_left
   ·exact zV16
   refine pure_ (i := 10) (N := some 57) (v := undef) (a' := ?_) zq16_6 rfl rfl (any_of HT_.out (by kernel_rfl)) (fun _ _ _ h => h) (Or.inr ⟨by rfl, rfl⟩) ?_ ?_
   rotate_left
   ·exact zV16
   refine pure_ (i := 11) (N := some 58) (v := undef) (a' := ?_) zq16_9 rfl rfl (any_of HT_.out (by kernel_rfl)) (fun _ _ _ h => h) (Or.inr ⟨by rfl, rfl⟩) ?_ ?_
   rotate_left
   ·exact zV16
   refine pure_ (i := 12) (N := some 59) (v := ?_) (a' := ?_) zq16_10 rfl rfl (any_of HT_.out (by kernel_rfl)) (fun _ _ _ h => h) (Or.inl ⟨by rfl, ?_⟩) ?_ ?_
   rotate_left
   ·intro w'
    go_simp
    with_reducible rfl
   rotate_left
   ·exact zV16
   refine done_ (done_of HT_.out (by kernel_rfl)) ?_
   try go_wp2
   go_meet
   case rel => exact ⟨_, (true), (by first | rfl | (simp; done) | (simp [*]; done)), H', ⟨by first | omega | exact Nat.le_refl _⟩, ⟨by (with_reducible repeat (first | apply Kd.R_alloc | apply Kd.R_drewN | apply Kd.R_drew)); exact Kd.R_mono HO603.out (fun _ hk => ⟨hk.1.1, hk.2⟩)⟩, ⟨by (with_reducible repeat (first | apply Kd.S_alloc | apply Kd.S_drewN | apply Kd.S_drew)); exact Kd.S_mono HO605.out (fun _ hk => ⟨hk.1.1.1.1.1, ⟨hk.1.1.1.1.2, ⟨hk.1.2, hk.2⟩⟩⟩)⟩, ⟨by (with_reducible repeat (first | apply Kd.R_alloc | apply Kd.R_drewN | apply Kd.R_drew)); exact Kd.R_mono HO607.out (fun _ hk => ⟨hk.1.1, hk.2⟩)⟩, ⟨by (with_reducible repeat (first | apply Kd.R_alloc | apply Kd.R_drewN | apply Kd.R_drew)); exact Kd.R_mono HO626.out (fun _ hk => ⟨hk.1.1.2, hk.1.2⟩)⟩, ⟨by (with_reducible repeat (first | apply Kd.S_alloc | apply Kd.S_drewN | apply Kd.S_drew)); exact Kd.S_mono HO628.out (fun _ hk => ⟨hk.1.1.1.1.2, ⟨hk.1.1.1.2, ⟨hk.1.1.2, hk.1.1.1.1.1⟩⟩⟩)⟩, ⟨zB16_0⟩⟩
  subst c25
  have H1 : ((impl_SaveBytes.f k t613 t614).bind fun t629 => ((spec_SaveBytes.f k t613 t614).bind fun t632 => (laws_FnResumes.j0 k t599 t600 t601 ji7 t622 t623 ((strOfNums t629).toList != (strOfNums t632).toList)))) = some r := by rw [if_pos rfl] at H; exact H
  clear H
  have H := H1
  clear H1
  replace H := Option.bind_eq_some_iff.mp H
  obtain ⟨t629, A260, H⟩ := H
  replace H : ((spec_SaveBytes.f k t613 t614).bind fun t632 => (laws_FnResumes.j0 k t599 t600 t601 ji7 t622 t623 ((strOfNums t629).toList != (strOfNums t632).toList))) = some r := H
  have A26 := Aside0.mk A260
  clear A260
  replace H := Option.bind_eq_some_iff.mp H
  obtain ⟨t632, A270, H⟩ := H
  replace H : (laws_FnResumes.j0 k t599 t600 t601 ji7 t622 t623 ((strOfNums t629).toList != (strOfNums t632).toList)) = some r := H
  have A27 := Aside0.mk A270
  clear A270
  have H' := Aside0.mk H
  clear H
  try go_wp2
  have n0_ := Aside0.mk (Kd.R_drew HO603.out)
  have n1_ := Aside0.mk (Kd.S_drew HO605.out)
  have n2_ := Aside0.mk (Kd.R_drew HO607.out)
  have n3_ := Aside0.mk (Kd.R_drew HO616.out)
  have n4_ := Aside0.mk (Kd.S_drew HO618.out)
  have n5_ := Aside0.mk (Kd.R_drew HO621.out)
  have n6_ := Aside0.mk (Kd.R_drew HO626.out)
  have n7_ := Aside0.mk (Kd.S_drew HO628.out)
  have n8_ := Aside0.mk (Kd.C_drew HR612.out)
  have n9_ := Aside0.mk (below_drew1 HB.out)
  clear HO603 HO605 HO607 HO616 HO618 HO621 HO626 HO628 HR612 HB
  have HO603 := n0_
  have HO605 := n1_
  have HO607 := n2_
  have HO616 := n3_
  have HO618 := n4_
  have HO621 := n5_
  have HO626 := n6_
  have HO628 := n7_
  have HR612 := n8_
  have HB := n9_
  clear n0_ n1_ n2_ n3_ n4_ n5_ n6_ n7_ n8_ n9_
  refine start_ (n := 13) (S := fun w' => True) (ds := []) zq16_0 (by kernel_rfl) rfl rfl trivial (fun hHeld => ?_); refine with_tabW laws_FnResumes.tab7 laws_FnResumes.bits7 (fun HT_ HW_ => ?_)
  generalize w24.drew = w28 at HO603 HO605 HO607 HO616 HO618 HO621 HO626 HO628 HR612 HB hHeld ⊢
  refine pure_ (i := 0) (N := some 47) (v := ?_) (a' := ?_) zq16_1 rfl rfl (any_of HT_.out (by kernel_rfl)) (fun _ _ _ h => h) (Or.inl ⟨by rfl, ?_⟩) ?_ ?_
  rotate_left
  ·intro w'
   go_simp
   with_reducible rfl
  rotate_left
  ·exact zV16
  refine pure_ (i := 1) (N := some 48) (v := ?_) (a' := ?_) zq16_2 rfl rfl (any_of HT_.out (by kernel_rfl)) (fun _ _ _ h => h) (Or.inl ⟨by rfl, ?_⟩) ?_ ?_
  rotate_left
  ·intro w'
   go_simp
   with_reducible rfl
  rotate_left
  ·exact zV16
  refine pure_ (i := 2) (N := some 49) (v := ?_) (a' := ?_) zq16_3 rfl rfl (any_of HT_.out (by kernel_rfl)) (fun _ _ _ h => h) (Or.inl ⟨by rfl, ?_⟩) ?_ ?_
  rotate_left
  ·intro w'
   go_simp
   with_reducible rfl
  rotate_left
  ·exact zV16
  refine pure_ (i := 3) (N := some 50) (v := ?_) (a' := ?_) zq16_4 rfl rfl (any_of HT_.out (by kernel_rfl)) (fun _ _ _ h => h) (Or.inl ⟨by rfl, ?_⟩) ?_ ?_
  rotate_left
  ·intro w'
   go_simp
   with_reducible rfl
  rotate_left
  ·exact zV16
  refine pure_ (i := 4) (N := some 51) (v := ?_) (a' := ?_) zq16_5 rfl rfl (any_of HT_.out (by kernel_rfl)) (fun _ _ _ h => h) (Or.inl ⟨by rfl, ?_⟩) ?_ ?_
  rotate_left
  ·intro w'
   go_simp
   with_reducible rfl
  rotate_left
  ·exact zV16
  refine pure_ (i := 7) (N := some 54) (v := ?_) (a' := ?_) #[true, true, true, true, true, false, false, true, false, false, false, false, false] rfl rfl (any_of HT_.out (by kernel_rfl)) (fun _ _ _ h => h) (Or.inl ⟨by rfl, ?_⟩) ?_ ?_
  rotate_left
  ·intro w'
   go_simp
   with_reducible rfl
  rotate_left
  ·exact zV16
  refine pure_ (i := 8) (N := some 55) (v := ?_) (a' := ?_) #[true, true, true, true, true, false, false, true, true, false, false, false, false] rfl rfl (any_of HT_.out (by kernel_rfl)) (fun _ _ _ h => h) (Or.inl ⟨by rfl, ?_⟩) ?_ ?_
  rotate_left
  ·intro w'
   go_simp
   with_reducible rfl
  rotate_left
  ·exact zV16
  refine one_ (i := 5) (N := some 52) #[true, true, true, true, true, true, false, true, true, false, false, false, false] rfl rfl (one_of HT_.out (by kernel_rfl)) (by decide) (fun K hK => ?_)
  refine goes_ Try.func28 (by kernel_rfl) rfl #[.slice Ao20 t613.length co20, .slice Ao21 t614.length co21] (by rfl) rfl rfl zT16 ?_
  with_reducible refine (impl_SaveBytes.calls k _ _ t613 _ _ t614 t629 _ ?side1 ?side2 ?side3 ?side4 A26.out).mono ?_
  (case side1 => exact zC16 (Kd.R_reads' HO616.out).2.2)
  (case side2 => exact (Kd.R_reads' HO616.out).2.1)
  (case side3 => exact zC16 (Kd.S_reads' HO618.out).2.2)
  (case side4 => exact (Kd.S_reads' HO618.out).2.1)
  rintro e w29 ⟨v630, rfl, ho0, hb⟩
  refine ⟨_, rfl, ?_⟩
  have n0_ := Aside0.mk (Kd.R_below (zR16 HO603.out) hb)
  have n1_ := Aside0.mk (Kd.S_below (zS16 HO605.out) hb)
  have n2_ := Aside0.mk (Kd.R_below (zR16 HO607.out) hb)
  have n3_ := Aside0.mk (Kd.R_below (zR16 HO616.out) hb)
  have n4_ := Aside0.mk (Kd.S_below (zS16 HO618.out) hb)
  have n5_ := Aside0.mk (Kd.R_elder' (zR16 HO621.out) (Kd.R_base ho0) hb)
  have n6_ := Aside0.mk (Kd.R_below (zR16 HO626.out) hb)
  have n7_ := Aside0.mk (Kd.S_below (zS16 HO628.out) hb)
  have n8_ := Aside0.mk (Kd.R_lower (Kd.R_new' ho0 (Kd.R_lt (zR16 HO621.out))) (below_size (zB16_0)))
  have n9_ := Aside0.mk (Kd.C_below (by repeat (first | (with_reducible exact HR612.out) | (with_reducible refine Kd.C_alloc ?_ _) | (with_reducible refine Kd.C_drewN ?_ _) | (with_reducible refine Kd.C_drew ?_) | exact HR612.out)) hb)
  have n10_ := Aside0.mk (below_step (zB16_0) hb)
  clear HO603 HO605 HO607 HO616 HO618 HO621 HO626 HO628 HR612 HB
  have HO603 := n0_
  have HO605 := n1_
  have HO607 := n2_
  have HO616 := n3_
  have HO618 := n4_
  have HO621 := n5_
  have HO626 := n6_
  have HO628 := n7_
  have HO631 := n8_
  have HR612 := n9_
  have HB := n10_
  clear n0_ n1_ n2_ n3_ n4_ n5_ n6_ n7_ n8_ n9_ n10_
  (try clear hb)
  (try clear hb2)
  (try clear hk)
  (try clear hi)
  (try clear ho0)
  refine hK.out _ _ trivial (fun hHeld => ?_)
  clear hK K
  refine norm_ (a' := ?_) ?_ ?_
  rotate_left
  ·show Act.put _ (some 52) _ = _
   simp only [Act.put, List.setIfInBounds_toArray, List.set_cons_zero, List.set_cons_succ, i64_w, i32_w]
   rfl
  refine join_ (σ := Value) 2 zq16_6 (fun s_ => [(53, .string (strOfNums t629)), (56, s_), (57, .string (strOfNums t632))]) (fun s_ w' => (Kd.R (Kd.int .i64) 3 w' w.heap.size (fun k_ => some k_ ≠ (.slice Ao15 t601.length co15 : Value).ownBlock ∧ some k_ ≠ (.slice Ao20 t613.length co20 : Value).ownBlock ∧ some k_ ≠ (v625 : Value).ownBlock) (.slice Ao17 t599.length co17) t599) ∧ (Kd.S k47 47 w' w.heap.size (fun k_ => some k_ ≠ (.slice Ao17 t599.length co17 : Value).ownBlock ∧ some k_ ≠ (.slice Ao15 t601.length co15 : Value).ownBlock ∧ some k_ ≠ (.slice Ao20 t613.length co20 : Value).ownBlock ∧ some k_ ≠ (.slice Ao21 t614.length co21 : Value).ownBlock ∧ some k_ ≠ (v625 : Value).ownBlock ∧ some k_ ≠ (v627 : Value).ownBlock) (.slice Ao18 t600.length co18) t600) ∧ (Kd.R (Kd.int .i64) 3 w' w.heap.size (fun k_ => some k_ ≠ (.slice Ao17 t599.length co17 : Value).ownBlock ∧ some k_ ≠ (.slice Ao20 t613.length co20 : Value).ownBlock ∧ some k_ ≠ (v625 : Value).ownBlock) (.slice Ao15 t601.length co15) t601) ∧ (Kd.R (Kd.int .i64) 3 w' w.heap.size (fun k_ => some k_ ≠ (.slice Ao17 t599.length co17 : Value).ownBlock ∧ some k_ ≠ (.slice Ao15 t601.length co15 : Value).ownBlock ∧ some k_ ≠ (v625 : Value).ownBlock) (.slice Ao20 t613.length co20) t613) ∧ (Kd.S k47 47 w' w.heap.size (fun k_ => some k_ ≠ (.slice Ao17 t599.length co17 : Value).ownBlock ∧ some k_ ≠ (.slice Ao18 t600.length co18 : Value).ownBlock ∧ some k_ ≠ (.slice Ao15 t601.length co15 : Value).ownBlock ∧ some k_ ≠ (.slice Ao20 t613.length co20 : Value).ownBlock ∧ some k_ ≠ (v625 : Value).ownBlock ∧ some k_ ≠ (v627 : Value).ownBlock) (.slice Ao21 t614.length co21) t614) ∧ (Kd.R (Kd.int .u8) 5 w' w.heap.size (fun k_ => some k_ ≠ (v630 : Value).ownBlock ∧ some k_ ≠ (s_ : Value).ownBlock) (.slice Ao23 t619.length co23) t619) ∧ (Kd.R (Kd.int .i64) 3 w' w.heap.size (fun k_ => some k_ ≠ (.slice Ao17 t599.length co17 : Value).ownBlock ∧ some k_ ≠ (.slice Ao15 t601.length co15 : Value).ownBlock ∧ some k_ ≠ (.slice Ao20 t613.length co20 : Value).ownBlock) v625 t622) ∧ (Kd.S k47 47 w' w.heap.size (fun k_ => some k_ ≠ (.slice Ao17 t599.length co17 : Value).ownBlock ∧ some k_ ≠ (.slice Ao18 t600.length co18 : Value).ownBlock ∧ some k_ ≠ (.slice Ao15 t601.length co15 : Value).ownBlock ∧ some k_ ≠ (.slice Ao20 t613.length co20 : Value).ownBlock ∧ some k_ ≠ (.slice Ao21 t614.length co21 : Value).ownBlock ∧ some k_ ≠ (v625 : Value).ownBlock) v627 t623) ∧ (Kd.R (Kd.int .u8) 5 w' w.heap.size (fun k_ => some k_ ≠ (.slice Ao23 t619.length co23 : Value).ownBlock ∧ some k_ ≠ (s_ : Value).ownBlock) v630 t629) ∧ (Kd.R (Kd.int .u8) 5 w' w.heap.size (fun k_ => some k_ ≠ (.slice Ao23 t619.length co23 : Value).ownBlock ∧ some k_ ≠ (v630 : Value).ownBlock) s_ t632) ∧ (Below w.heap.size w w')) ?_ ?_
  rotate_left
  ·intro hCont
   refine two_ (i := 6) (j := 9) (Ni := some 53) (Nj := some 56) zq16_7 #[true, true, true, true, true, true, false, true, true, true, false, false, false] rfl rfl rfl rfl (two_of HT_.out (by kernel_rfl)) (by decide) (by decide) (fun K hK => ?_) (fun K hK => ?_)
   ·skip
    have hcv30 := own_string (P := Try.prog) Try.underlying22 Try.underlying5 Try.underlying9 (Kd.own_of_R HO631.out)
    refine value_ (w1 := ?_) (v := ?_) (by rfl) rfl ?_ ?_
    rotate_left 2
    ·go_simp
     constructor
     ·rfl
     ·rfl
    clear hcv30
    refine hK.out _ _ trivial (fun hHeld => ?_)
    clear hK K
    refine norm_ (a' := ?_) ?_ ?_
    rotate_left
    ·show Act.put _ (some 53) _ = _
     simp only [Act.put, List.setIfInBounds_toArray, List.set_cons_zero, List.set_cons_succ, i64_w, i32_w]
     rfl
    refine one_ (i := 9) (N := some 56) zq16_8 rfl rfl (one_of HT_.out (by kernel_rfl)) (by decide) (fun K hK => ?_)
    refine goes_ Try.func29 (by kernel_rfl) rfl #[.slice Ao20 t613.length co20, .slice Ao21 t614.length co21] (by rfl) rfl rfl zT16 ?_
    with_reducible refine (spec_SaveBytes.calls k _ _ t613 _ _ t614 t632 _ ?side1 ?side2 ?side3 ?side4 A27.out).mono ?_
    (case side1 => exact zC16 (Kd.R_reads' HO616.out).2.2)
    (case side2 => exact (Kd.R_reads' HO616.out).2.1)
    (case side3 => exact zC16 (Kd.S_reads' HO618.out).2.2)
    (case side4 => exact (Kd.S_reads' HO618.out).2.1)
    rintro e w31 ⟨v633, rfl, ho0, hb⟩
    refine ⟨_, rfl, ?_⟩
    have n0_ := Aside0.mk (Kd.R_below (zR16 HO603.out) hb)
    have n1_ := Aside0.mk (Kd.S_below (zS16 HO605.out) hb)
    have n2_ := Aside0.mk (Kd.R_below (zR16 HO607.out) hb)
    have n3_ := Aside0.mk (Kd.R_below (zR16 HO616.out) hb)
    have n4_ := Aside0.mk (Kd.S_below (zS16 HO618.out) hb)
    have n5_ := Aside0.mk (Kd.R_elder' (zR16 HO621.out) (Kd.R_base ho0) hb)
    have n6_ := Aside0.mk (Kd.R_below (zR16 HO626.out) hb)
    have n7_ := Aside0.mk (Kd.S_below (zS16 HO628.out) hb)
    have n8_ := Aside0.mk (Kd.R_elder' (zR16 HO631.out) (Kd.R_base ho0) hb)
    have n9_ := Aside0.mk (Kd.R_lower (Kd.R_new' (Kd.R_new' ho0 (Kd.R_lt (zR16 HO621.out))) (Kd.R_lt (zR16 HO631.out))) (below_size (zB16_0)))
    have n10_ := Aside0.mk (Kd.C_below (by repeat (first | (with_reducible exact HR612.out) | (with_reducible refine Kd.C_alloc ?_ _) | (with_reducible refine Kd.C_drewN ?_ _) | (with_reducible refine Kd.C_drew ?_) | exact HR612.out)) hb)
    have n11_ := Aside0.mk (below_step (zB16_0) hb)
    clear HO603 HO605 HO607 HO616 HO618 HO621 HO626 HO628 HO631 HR612 HB
    have HO603 := n0_
    have HO605 := n1_
    have HO607 := n2_
    have HO616 := n3_
    have HO618 := n4_
    have HO621 := n5_
    have HO626 := n6_
    have HO628 := n7_
    have HO631 := n8_
    have HO634 := n9_
    have HR612 := n10_
    have HB := n11_
    clear n0_ n1_ n2_ n3_ n4_ n5_ n6_ n7_ n8_ n9_ n10_ n11_
    (try clear hb)
    (try clear hb2)
    (try clear hk)
    (try clear hi)
    (try clear ho0)
    refine hK.out _ _ trivial (fun hHeld => ?_)
    clear hK K
    refine norm_ (a' := ?_) ?_ ?_
    rotate_left
    ·show Act.put _ (some 56) _ = _
     simp only [Act.put, List.setIfInBounds_toArray, List.set_cons_zero, List.set_cons_succ, i64_w, i32_w]
     rfl
    refine one_ (i := 10) (N := some 57) zq16_6 rfl rfl (one_of HT_.out (by kernel_rfl)) (by decide) (fun K hK => ?_)
    have hcv32 := own_string (P := Try.prog) Try.underlying22 Try.underlying5 Try.underlying9 (Kd.own_of_R HO634.out)
    refine value_ (w1 := ?_) (v := ?_) (by rfl) rfl ?_ ?_
    rotate_left 2
    ·go_simp
     constructor
     ·rfl
     ·rfl
    clear hcv32
    refine hK.out _ _ trivial (fun hHeld => ?_)
    clear hK K
    refine norm_ (a' := ?_) ?_ ?_
    rotate_left
    ·show Act.put _ (some 57) _ = _
     simp only [Act.put, List.setIfInBounds_toArray, List.set_cons_zero, List.set_cons_succ, i64_w, i32_w]
     rfl
    exact norm_ (by simp only [putAll, Act.put, List.setIfInBounds_toArray, List.set_cons_zero, List.set_cons_succ]) (hCont (v633) _ ⟨(by (with_reducible repeat (first | apply Kd.R_alloc | apply Kd.R_drewN | apply Kd.R_drew)); exact Kd.R_mono HO603.out (fun _ hk => ⟨hk.1.1, ⟨hk.1.2, hk.2⟩⟩)), (by (with_reducible repeat (first | apply Kd.S_alloc | apply Kd.S_drewN | apply Kd.S_drew)); exact Kd.S_mono HO605.out (fun _ hk => ⟨hk.1.1.1.1.1, ⟨hk.1.1.1.1.2, ⟨hk.1.1.1.2, ⟨hk.1.1.2, ⟨hk.1.2, hk.2⟩⟩⟩⟩⟩)), (by (with_reducible repeat (first | apply Kd.R_alloc | apply Kd.R_drewN | apply Kd.R_drew)); exact Kd.R_mono HO607.out (fun _ hk => ⟨hk.1.1, ⟨hk.1.2, hk.2⟩⟩)), (by (with_reducible repeat (first | apply Kd.R_alloc | apply Kd.R_drewN | apply Kd.R_drew)); exact Kd.R_mono HO616.out (fun _ hk => ⟨hk.1.1.2, ⟨hk.1.2, hk.2⟩⟩)), (by (with_reducible repeat (first | apply Kd.S_alloc | apply Kd.S_drewN | apply Kd.S_drew)); exact Kd.S_mono HO618.out (fun _ hk => ⟨hk.1.1.1.1.2, ⟨hk.1.1.1.2, ⟨hk.1.1.2, ⟨hk.1.1.1.1.1, ⟨hk.1.2, hk.2⟩⟩⟩⟩⟩)), (by (with_reducible repeat (first | apply Kd.R_alloc | apply Kd.R_drewN | apply Kd.R_drew)); exact Kd.R_mono HO621.out (fun _ hk => ⟨hk.1.2, hk.2⟩)), (by (with_reducible repeat (first | apply Kd.R_alloc | apply Kd.R_drewN | apply Kd.R_drew)); exact Kd.R_mono HO626.out (fun _ hk => ⟨hk.1.1.2, ⟨hk.1.2, hk.2⟩⟩)), (by (with_reducible repeat (first | apply Kd.S_alloc | apply Kd.S_drewN | apply Kd.S_drew)); exact Kd.S_mono HO628.out (fun _ hk => ⟨hk.1.1.1.1.2, ⟨hk.1.1.1.2, ⟨hk.1.1.2, ⟨hk.1.2, ⟨hk.2, hk.1.1.1.1.1⟩⟩⟩⟩⟩)), (by (with_reducible repeat (first | apply Kd.R_alloc | apply Kd.R_drewN | apply Kd.R_drew)); exact Kd.R_mono HO631.out (fun _ hk => ⟨hk.1.2, hk.2⟩)), (by (with_reducible repeat (first | apply Kd.R_alloc | apply Kd.R_drewN | apply Kd.R_drew)); exact Kd.R_mono HO634.out (fun _ hk => ⟨hk.1.2, hk.2⟩)), (zB16_0)⟩)
   ·skip
    refine goes_ Try.func29 (by kernel_rfl) rfl #[.slice Ao20 t613.length co20, .slice Ao21 t614.length co21] (by rfl) rfl rfl zT16 ?_
    with_reducible refine (spec_SaveBytes.calls k _ _ t613 _ _ t614 t632 _ ?side1 ?side2 ?side3 ?side4 A27.out).mono ?_
    (case side1 => exact zC16 (Kd.R_reads' HO616.out).2.2)
    (case side2 => exact (Kd.R_reads' HO616.out).2.1)
    (case side3 => exact zC16 (Kd.S_reads' HO618.out).2.2)
    (case side4 => exact (Kd.S_reads' HO618.out).2.1)
    rintro e w30 ⟨v633, rfl, ho0, hb⟩
    refine ⟨_, rfl, ?_⟩
    have n0_ := Aside0.mk (Kd.R_below (zR16 HO603.out) hb)
    have n1_ := Aside0.mk (Kd.S_below (zS16 HO605.out) hb)
    have n2_ := Aside0.mk (Kd.R_below (zR16 HO607.out) hb)
    have n3_ := Aside0.mk (Kd.R_below (zR16 HO616.out) hb)
    have n4_ := Aside0.mk (Kd.S_below (zS16 HO618.out) hb)
    have n5_ := Aside0.mk (Kd.R_elder' (zR16 HO621.out) (Kd.R_base ho0) hb)
    have n6_ := Aside0.mk (Kd.R_below (zR16 HO626.out) hb)
    have n7_ := Aside0.mk (Kd.S_below (zS16 HO628.out) hb)
    have n8_ := Aside0.mk (Kd.R_elder' (zR16 HO631.out) (Kd.R_base ho0) hb)
    have n9_ := Aside0.mk (Kd.R_lower (Kd.R_new' (Kd.R_new' ho0 (Kd.R_lt (zR16 HO621.out))) (Kd.R_lt (zR16 HO631.out))) (below_size (zB16_0)))
    have n10_ := Aside0.mk (Kd.C_below (by repeat (first | (with_reducible exact HR612.out) | (with_reducible refine Kd.C_alloc ?_ _) | (with_reducible refine Kd.C_drewN ?_ _) | (with_reducible refine Kd.C_drew ?_) | exact HR612.out)) hb)
    have n11_ := Aside0.mk (below_step (zB16_0) hb)
    clear HO603 HO605 HO607 HO616 HO618 HO621 HO626 HO628 HO631 HR612 HB
    have HO603 := n0_
    have HO605 := n1_
    have HO607 := n2_
    have HO616 := n3_
    have HO618 := n4_
    have HO621 := n5_
    have HO626 := n6_
    have HO628 := n7_
    have HO631 := n8_
    have HO634 := n9_
    have HR612 := n10_
    have HB := n11_
    clear n0_ n1_ n2_ n3_ n4_ n5_ n6_ n7_ n8_ n9_ n10_ n11_
    (try clear hb)
    (try clear hb2)
    (try clear hk)
    (try clear hi)
    (try clear ho0)
    refine hK.out _ _ trivial (fun hHeld => ?_)
    clear hK K
    refine norm_ (a' := ?_) ?_ ?_
    rotate_left
    ·show Act.put _ (some 56) _ = _
     simp only [Act.put, List.setIfInBounds_toArray, List.set_cons_zero, List.set_cons_succ, i64_w, i32_w]
     rfl
    refine two_ (i := 6) (j := 10) (Ni := some 53) (Nj := some 57) zq16_8 #[true, true, true, true, true, true, false, true, true, true, true, false, false] rfl rfl rfl rfl (two_of HT_.out (by kernel_rfl)) (by decide) (by decide) (fun K hK => ?_) (fun K hK => ?_)
    ·skip
     have hcv31 := own_string (P := Try.prog) Try.underlying22 Try.underlying5 Try.underlying9 (Kd.own_of_R HO631.out)
     refine value_ (w1 := ?_) (v := ?_) (by rfl) rfl ?_ ?_
     rotate_left 2
     ·go_simp
      constructor
      ·rfl
      ·rfl
     clear hcv31
     refine hK.out _ _ trivial (fun hHeld => ?_)
     clear hK K
     refine norm_ (a' := ?_) ?_ ?_
     rotate_left
     ·show Act.put _ (some 53) _ = _
      simp only [Act.put, List.setIfInBounds_toArray, List.set_cons_zero, List.set_cons_succ, i64_w, i32_w]
      rfl
     refine one_ (i := 10) (N := some 57) zq16_6 rfl rfl (one_of HT_.out (by kernel_rfl)) (by decide) (fun K hK => ?_)
     have hcv32 := own_string (P := Try.prog) Try.underlying22 Try.underlying5 Try.underlying9 (Kd.own_of_R HO634.out)
     refine value_ (w1 := ?_) (v := ?_) (by rfl) rfl ?_ ?_
     rotate_left 2
     ·go_simp
      constructor
      ·rfl
      ·rfl
     clear hcv32
     refine hK.out _ _ trivial (fun hHeld => ?_)
     clear hK K
     refine norm_ (a' := ?_) ?_ ?_
     rotate_left
     ·show Act.put _ (some 57) _ = _
      simp only [Act.put, List.setIfInBounds_toArray, List.set_cons_zero, List.set_cons_succ, i64_w, i32_w]
      rfl
     exact norm_ (by simp only [putAll, Act.put, List.setIfInBounds_toArray, List.set_cons_zero, List.set_cons_succ]) (hCont (v633) _ ⟨(by (with_reducible repeat (first | apply Kd.R_alloc | apply Kd.R_drewN | apply Kd.R_drew)); exact Kd.R_mono HO603.out (fun _ hk => ⟨hk.1.1, ⟨hk.1.2, hk.2⟩⟩)), (by (with_reducible repeat (first | apply Kd.S_alloc | apply Kd.S_drewN | apply Kd.S_drew)); exact Kd.S_mono HO605.out (fun _ hk => ⟨hk.1.1.1.1.1, ⟨hk.1.1.1.1.2, ⟨hk.1.1.1.2, ⟨hk.1.1.2, ⟨hk.1.2, hk.2⟩⟩⟩⟩⟩)), (by (with_reducible repeat (first | apply Kd.R_alloc | apply Kd.R_drewN | apply Kd.R_drew)); exact Kd.R_mono HO607.out (fun _ hk => ⟨hk.1.1, ⟨hk.1.2, hk.2⟩⟩)), (by (with_reducible repeat (first | apply Kd.R_alloc | apply Kd.R_drewN | apply Kd.R_drew)); exact Kd.R_mono HO616.out (fun _ hk => ⟨hk.1.1.2, ⟨hk.1.2, hk.2⟩⟩)), (by (with_reducible repeat (first | apply Kd.S_alloc | apply Kd.S_drewN | apply Kd.S_drew)); exact Kd.S_mono HO618.out (fun _ hk => ⟨hk.1.1.1.1.2, ⟨hk.1.1.1.2, ⟨hk.1.1.2, ⟨hk.1.1.1.1.1, ⟨hk.1.2, hk.2⟩⟩⟩⟩⟩)), (by (with_reducible repeat (first | apply Kd.R_alloc | apply Kd.R_drewN | apply Kd.R_drew)); exact Kd.R_mono HO621.out (fun _ hk => ⟨hk.1.2, hk.2⟩)), (by (with_reducible repeat (first | apply Kd.R_alloc | apply Kd.R_drewN | apply Kd.R_drew)); exact Kd.R_mono HO626.out (fun _ hk => ⟨hk.1.1.2, ⟨hk.1.2, hk.2⟩⟩)), (by (with_reducible repeat (first | apply Kd.S_alloc | apply Kd.S_drewN | apply Kd.S_drew)); exact Kd.S_mono HO628.out (fun _ hk => ⟨hk.1.1.1.1.2, ⟨hk.1.1.1.2, ⟨hk.1.1.2, ⟨hk.1.2, ⟨hk.2, hk.1.1.1.1.1⟩⟩⟩⟩⟩)), (by (with_reducible repeat (first | apply Kd.R_alloc | apply Kd.R_drewN | apply Kd.R_drew)); exact Kd.R_mono HO631.out (fun _ hk => ⟨hk.1.2, hk.2⟩)), (by (with_reducible repeat (first | apply Kd.R_alloc | apply Kd.R_drewN | apply Kd.R_drew)); exact Kd.R_mono HO634.out (fun _ hk => ⟨hk.1.2, hk.2⟩)), (zB16_0)⟩)
    ·skip
     have hcv31 := own_string (P := Try.prog) Try.underlying22 Try.underlying5 Try.underlying9 (Kd.own_of_R HO634.out)
     refine value_ (w1 := ?_) (v := ?_) (by rfl) rfl ?_ ?_
     rotate_left 2
     ·go_simp
      constructor
      ·rfl
      ·rfl
     clear hcv31
     refine hK.out _ _ trivial (fun hHeld => ?_)
     clear hK K
     refine norm_ (a' := ?_) ?_ ?_
     rotate_left
     ·show Act.put _ (some 57) _ = _
      simp only [Act.put, List.setIfInBounds_toArray, List.set_cons_zero, List.set_cons_succ, i64_w, i32_w]
      rfl
     refine one_ (i := 6) (N := some 53) zq16_6 rfl rfl (one_of HT_.out (by kernel_rfl)) (by decide) (fun K hK => ?_)
     have hcv32 := own_string (P := Try.prog) Try.underlying22 Try.underlying5 Try.underlying9 (Kd.own_of_R HO631.out)
     refine value_ (w1 := ?_) (v := ?_) (by rfl) rfl ?_ ?_
     rotate_left 2
     ·go_simp
      constructor
      ·rfl
      ·rfl
     clear hcv32
     refine hK.out _ _ trivial (fun hHeld => ?_)
     clear hK K
     refine norm_ (a' := ?_) ?_ ?_
     rotate_left
     ·show Act.put _ (some 53) _ = _
      simp only [Act.put, List.setIfInBounds_toArray, List.set_cons_zero, List.set_cons_succ, i64_w, i32_w]
      rfl
     exact norm_ (by simp only [putAll, Act.put, List.setIfInBounds_toArray, List.set_cons_zero, List.set_cons_succ]) (hCont (v633) _ ⟨(by (with_reducible repeat (first | apply Kd.R_alloc | apply Kd.R_drewN | apply Kd.R_drew)); exact Kd.R_mono HO603.out (fun _ hk => ⟨hk.1.1, ⟨hk.1.2, hk.2⟩⟩)), (by (with_reducible repeat (first | apply Kd.S_alloc | apply Kd.S_drewN | apply Kd.S_drew)); exact Kd.S_mono HO605.out (fun _ hk => ⟨hk.1.1.1.1.1, ⟨hk.1.1.1.1.2, ⟨hk.1.1.1.2, ⟨hk.1.1.2, ⟨hk.1.2, hk.2⟩⟩⟩⟩⟩)), (by (with_reducible repeat (first | apply Kd.R_alloc | apply Kd.R_drewN | apply Kd.R_drew)); exact Kd.R_mono HO607.out (fun _ hk => ⟨hk.1.1, ⟨hk.1.2, hk.2⟩⟩)), (by (with_reducible repeat (first | apply Kd.R_alloc | apply Kd.R_drewN | apply Kd.R_drew)); exact Kd.R_mono HO616.out (fun _ hk => ⟨hk.1.1.2, ⟨hk.1.2, hk.2⟩⟩)), (by (with_reducible repeat (first | apply Kd.S_alloc | apply Kd.S_drewN | apply Kd.S_drew)); exact Kd.S_mono HO618.out (fun _ hk => ⟨hk.1.1.1.1.2, ⟨hk.1.1.1.2, ⟨hk.1.1.2, ⟨hk.1.1.1.1.1, ⟨hk.1.2, hk.2⟩⟩⟩⟩⟩)), (by (with_reducible repeat (first | apply Kd.R_alloc | apply Kd.R_drewN | apply Kd.R_drew)); exact Kd.R_mono HO621.out (fun _ hk => ⟨hk.1.2, hk.2⟩)), (by (with_reducible repeat (first | apply Kd.R_alloc | apply Kd.R_drewN | apply Kd.R_drew)); exact Kd.R_mono HO626.out (fun _ hk => ⟨hk.1.1.2, ⟨hk.1.2, hk.2⟩⟩)), (by (with_reducible repeat (first | apply Kd.S_alloc | apply Kd.S_drewN | apply Kd.S_drew)); exact Kd.S_mono HO628.out (fun _ hk => ⟨hk.1.1.1.1.2, ⟨hk.1.1.1.2, ⟨hk.1.1.2, ⟨hk.1.2, ⟨hk.2, hk.1.1.1.1.1⟩⟩⟩⟩⟩)), (by (with_reducible repeat (first | apply Kd.R_alloc | apply Kd.R_drewN | apply Kd.R_drew)); exact Kd.R_mono HO631.out (fun _ hk => ⟨hk.1.2, hk.2⟩)), (by (with_reducible repeat (first | apply Kd.R_alloc | apply Kd.R_drewN | apply Kd.R_drew)); exact Kd.R_mono HO634.out (fun _ hk => ⟨hk.1.2, hk.2⟩)), (zB16_0)⟩)
  rintro v633 w33 ⟨h0_, h1_, h2_, h3_, h4_, h5_, h6_, h7_, h8_, h9_, h10_⟩
  have n0_ : Aside0 (Kd.R (Kd.int .i64) 3 w33 w.heap.size (fun k_ => some k_ ≠ (.slice Ao15 t601.length co15 : Value).ownBlock ∧ some k_ ≠ (.slice Ao20 t613.length co20 : Value).ownBlock ∧ some k_ ≠ (v625 : Value).ownBlock) (.slice Ao17 t599.length co17) t599) := ⟨h0_⟩
  have n1_ : Aside0 (Kd.S k47 47 w33 w.heap.size (fun k_ => some k_ ≠ (.slice Ao17 t599.length co17 : Value).ownBlock ∧ some k_ ≠ (.slice Ao15 t601.length co15 : Value).ownBlock ∧ some k_ ≠ (.slice Ao20 t613.length co20 : Value).ownBlock ∧ some k_ ≠ (.slice Ao21 t614.length co21 : Value).ownBlock ∧ some k_ ≠ (v625 : Value).ownBlock ∧ some k_ ≠ (v627 : Value).ownBlock) (.slice Ao18 t600.length co18) t600) := ⟨h1_⟩
  have n2_ : Aside0 (Kd.R (Kd.int .i64) 3 w33 w.heap.size (fun k_ => some k_ ≠ (.slice Ao17 t599.length co17 : Value).ownBlock ∧ some k_ ≠ (.slice Ao20 t613.length co20 : Value).ownBlock ∧ some k_ ≠ (v625 : Value).ownBlock) (.slice Ao15 t601.length co15) t601) := ⟨h2_⟩
  have n3_ : Aside0 (Kd.R (Kd.int .i64) 3 w33 w.heap.size (fun k_ => some k_ ≠ (.slice Ao17 t599.length co17 : Value).ownBlock ∧ some k_ ≠ (.slice Ao15 t601.length co15 : Value).ownBlock ∧ some k_ ≠ (v625 : Value).ownBlock) (.slice Ao20 t613.length co20) t613) := ⟨h3_⟩
  have n4_ : Aside0 (Kd.S k47 47 w33 w.heap.size (fun k_ => some k_ ≠ (.slice Ao17 t599.length co17 : Value).ownBlock ∧ some k_ ≠ (.slice Ao18 t600.length co18 : Value).ownBlock ∧ some k_ ≠ (.slice Ao15 t601.length co15 : Value).ownBlock ∧ some k_ ≠ (.slice Ao20 t613.length co20 : Value).ownBlock ∧ some k_ ≠ (v625 : Value).ownBlock ∧ some k_ ≠ (v627 : Value).ownBlock) (.slice Ao21 t614.length co21) t614) := ⟨h4_⟩
  have n5_ : Aside0 (Kd.R (Kd.int .u8) 5 w33 w.heap.size (fun k_ => some k_ ≠ (v630 : Value).ownBlock ∧ some k_ ≠ (v633 : Value).ownBlock) (.slice Ao23 t619.length co23) t619) := ⟨h5_⟩
  have n6_ : Aside0 (Kd.R (Kd.int .i64) 3 w33 w.heap.size (fun k_ => some k_ ≠ (.slice Ao17 t599.length co17 : Value).ownBlock ∧ some k_ ≠ (.slice Ao15 t601.length co15 : Value).ownBlock ∧ some k_ ≠ (.slice Ao20 t613.length co20 : Value).ownBlock) v625 t622) := ⟨h6_⟩
  have n7_ : Aside0 (Kd.S k47 47 w33 w.heap.size (fun k_ => some k_ ≠ (.slice Ao17 t599.length co17 : Value).ownBlock ∧ some k_ ≠ (.slice Ao18 t600.length co18 : Value).ownBlock ∧ some k_ ≠ (.slice Ao15 t601.length co15 : Value).ownBlock ∧ some k_ ≠ (.slice Ao20 t613.length co20 : Value).ownBlock ∧ some k_ ≠ (.slice Ao21 t614.length co21 : Value).ownBlock ∧ some k_ ≠ (v625 : Value).ownBlock) v627 t623) := ⟨h7_⟩
  have n8_ : Aside0 (Kd.R (Kd.int .u8) 5 w33 w.heap.size (fun k_ => some k_ ≠ (.slice Ao23 t619.length co23 : Value).ownBlock ∧ some k_ ≠ (v633 : Value).ownBlock) v630 t629) := ⟨h8_⟩
  have n9_ : Aside0 (Kd.R (Kd.int .u8) 5 w33 w.heap.size (fun k_ => some k_ ≠ (.slice Ao23 t619.length co23 : Value).ownBlock ∧ some k_ ≠ (v630 : Value).ownBlock) v633 t632) := ⟨h9_⟩
  have n10_ : Aside0 (Below w.heap.size w w33) := ⟨h10_⟩
  clear HO603 HO605 HO607 HO616 HO618 HO621 HO626 HO628 HR612 HB h0_ h1_ h2_ h3_ h4_ h5_ h6_ h7_ h8_ h9_ h10_
  have HO603 := n0_
  have HO605 := n1_
  have HO607 := n2_
  have HO616 := n3_
  have HO618 := n4_
  have HO621 := n5_
  have HO626 := n6_
  have HO628 := n7_
  have HO631 := n8_
  have HO634 := n9_
  have HB := n10_
  clear n0_ n1_ n2_ n3_ n4_ n5_ n6_ n7_ n8_ n9_ n10_
  have hHeld := trivial
  refine norm_ (a' := ?_) ?_ ?_
  rotate_left
  ·simp only [putAll, Act.put, List.setIfInBounds_toArray, List.set_cons_zero, List.set_cons_succ]
   rfl
  refine pure_ (i := 11) (N := some 58) (v := ?_) (a' := ?_) zq16_9 rfl rfl (any_of HT_.out (by kernel_rfl)) (fun _ _ _ h => h) (Or.inl ⟨by rfl, ?_⟩) ?_ ?_
  rotate_left
  ·intro w'
   go_simp
   with_reducible rfl
  rotate_left
  ·exact zV16
  refine pure_ (i := 12) (N := some 59) (v := ?_) (a' := ?_) zq16_10 rfl rfl (any_of HT_.out (by kernel_rfl)) (fun _ _ _ h => h) (Or.inl ⟨by rfl, ?_⟩) ?_ ?_
  rotate_left
  ·intro w'
   go_simp
   with_reducible rfl
  rotate_left
  ·exact zV16
  refine done_ (done_of HT_.out (by kernel_rfl)) ?_
  try go_wp2
  go_meet
  case rel => exact ⟨_, (((strOfNums t629).toList != (strOfNums t632).toList)), (by first | rfl | (simp; done) | (simp [*]; done)), H', ⟨by first | omega | exact Nat.le_refl _⟩, ⟨by (with_reducible repeat (first | apply Kd.R_alloc | apply Kd.R_drewN | apply Kd.R_drew)); exact Kd.R_mono HO603.out (fun _ hk => ⟨hk.1, hk.2.2⟩)⟩, ⟨by (with_reducible repeat (first | apply Kd.S_alloc | apply Kd.S_drewN | apply Kd.S_drew)); exact Kd.S_mono HO605.out (fun _ hk => ⟨hk.1, ⟨hk.2.1, ⟨hk.2.2.2.2.1, hk.2.2.2.2.2⟩⟩⟩)⟩, ⟨by (with_reducible repeat (first | apply Kd.R_alloc | apply Kd.R_drewN | apply Kd.R_drew)); exact Kd.R_mono HO607.out (fun _ hk => ⟨hk.1, hk.2.2⟩)⟩, ⟨by (with_reducible repeat (first | apply Kd.R_alloc | apply Kd.R_drewN | apply Kd.R_drew)); exact Kd.R_mono HO626.out (fun _ hk => ⟨hk.1, hk.2.1⟩)⟩, ⟨by (with_reducible repeat (first | apply Kd.S_alloc | apply Kd.S_drewN | apply Kd.S_drew)); exact Kd.S_mono HO628.out (fun _ hk => ⟨hk.1, ⟨hk.2.1, ⟨hk.2.2.1, hk.2.2.2.2.2⟩⟩⟩)⟩, ⟨zB16_0⟩⟩
 case rest =>
  clear HC13
  try clear q1
  try clear c2
  try clear p2
  try clear hcv3
  try clear c4
  try clear c6
  try clear c6b1
  try clear p6
  try clear c8
  try clear c8b0
  try clear c8b1
  try clear c9
  try clear c9b0
  try clear c9b1
  try clear q16
  try clear c24
  try clear c25
  try clear c26
  try clear c27
  try clear c28
  try clear c29
  try clear hcv30
  try clear hcv31
  try clear hcv32
  try clear q16
  obtain ⟨kq, x59_12, rfl, HA, HJ12, HO_3, HO_4, HO_5, HO_9, HO_10, HB⟩ := hcut
  cases kq with
  | zero => exact absurd HA.out (by simp [laws_FnResumes.j0])
  | succ kj12 =>
   have H := HA.out
   clear HA
   simp only [laws_FnResumes.j0] at H
   by_cases c35 : x59_12 = true
   ·subst c35
    have H1 : (some false) = some r := by rw [if_pos rfl] at H; exact H
    clear H
    have H := H1
    clear H1
    obtain rfl := Option.some.inj H
    go_wp2
    go_ret
    exact ⟨by first | rfl | (simp [errW_none, errW_some] <;> rfl) | (simp only [← hji7]; first | rfl | (simp [errW_none, errW_some] <;> rfl)) | (simp [*, errW_none, errW_some] <;> rfl), zB16_0⟩
   replace c35 := Bool.eq_false_iff.mpr c35
   subst c35
   have H1 : (if 0 ≤ ji7 then (if ji7 ≤ (t601.length : Int) then ((impl_FlatRun.f kj12 t622 t623 (t601.drop (ji7 : Int).toNat)).bind fun bt639 => ((impl_FlatRun.f kj12 t599 t600 t601).bind fun bt645 => ((laws_sameInts.f kj12 bt639.1 bt645.1).bind fun t651 => (if t651 = true then ((laws_sameHarts.f kj12 bt639.2 bt645.2).bind fun t652 => (some t652)) else (some false))))) else (none)) else (none)) = some r := by rw [if_neg (show ¬ (false = true) by decide)] at H; exact H
   clear H
   have H := H1
   clear H1
   by_cases c36 : 0 ≤ ji7
   rotate_left
   ·rw [if_neg c36] at H
    exact absurd H (by simp)
   rw [if_pos c36] at H
   have c36b0 := eq_true c36
   have c36b1 : decide (0 ≤ ji7) = true := decide_eq_true c36
   clear c36
   by_cases c37 : ji7 ≤ (t601.length : Int)
   rotate_left
   ·rw [if_neg c37] at H
    exact absurd H (by simp)
   rw [if_pos c37] at H
   have c37b0 := eq_true c37
   have c37b1 : decide (ji7 ≤ (t601.length : Int)) = true := decide_eq_true c37
   clear c37
   obtain ⟨y635, hy635⟩ : ∃ y_ : List Int, y_ = (t601.drop (ji7 : Int).toNat) := ⟨_, rfl⟩
   replace H : ((impl_FlatRun.f kj12 t622 t623 y635).bind fun bt639 => ((impl_FlatRun.f kj12 t599 t600 t601).bind fun bt645 => ((laws_sameInts.f kj12 bt639.1 bt645.1).bind fun t651 => (if t651 = true then ((laws_sameHarts.f kj12 bt639.2 bt645.2).bind fun t652 => (some t652)) else (some false))))) = some r := by first | (rw [hy635]; with_reducible exact H) | (have H2_ := (Option.bind_some _ _).symm.trans H; rw [hy635]; with_reducible exact H2_) | (have H2_ := (Option.bind_some _ _).symm.trans H; with_reducible exact H2_) | with_reducible exact H | (rw [hy635]; exact H) | exact H
   have Ny635 := Aside0.mk hy635
   clear hy635
   replace H := Option.bind_eq_some_iff.mp H
   obtain ⟨⟨t639, t640⟩, A380, H⟩ := H
   replace H : ((impl_FlatRun.f kj12 t599 t600 t601).bind fun bt645 => ((laws_sameInts.f kj12 t639 bt645.1).bind fun t651 => (if t651 = true then ((laws_sameHarts.f kj12 t640 bt645.2).bind fun t652 => (some t652)) else (some false)))) = some r := H
   have A38 := Aside0.mk A380
   clear A380
   replace H := Option.bind_eq_some_iff.mp H
   obtain ⟨⟨t645, t646⟩, A390, H⟩ := H
   replace H : ((laws_sameInts.f kj12 t639 t645).bind fun t651 => (if t651 = true then ((laws_sameHarts.f kj12 t640 t646).bind fun t652 => (some t652)) else (some false))) = some r := H
   have A39 := Aside0.mk A390
   clear A390
   replace H := Option.bind_eq_some_iff.mp H
   obtain ⟨t651, A400, H⟩ := H
   replace H : (if t651 = true then ((laws_sameHarts.f kj12 t640 t646).bind fun t652 => (some t652)) else (some false)) = some r := H
   have A40 := Aside0.mk A400
   clear A400
   by_cases c41 : t651 = true
   rotate_left
   ·replace c41 := Bool.eq_false_iff.mpr c41
    subst c41
    have H1 : (some false) = some r := by rw [if_neg (show ¬ (false = true) by decide)] at H; exact H
    clear H
    have H := H1
    clear H1
    obtain rfl := Option.some.inj H
    have q53 : (ji7 : Int) ≤ ((t601.length : Int) : Int) := zA16
    obtain ⟨i053, hi053, _, hsz53, _⟩ := info_parts info3
    have hroom53 : t601.length ≤ co15 := (Kd.R_reads' HO_5.out).2.1
    have hC53 : Kd.C (Kd.int .i64) _ Ao15 t601.length t601 := (Kd.R_reads' HO_5.out).2.2
    have q053 : (0 : Int) ≤ (ji7 : Int) := zA16
    have hcut53 := cut_from (P := Try.prog) 24 3 .i64 Try.underlying24 hi053 1 hsz53 Ao15 t601.length co15 ji7 q053 q53
    have hr53 := Kd.C_drop (m := (ji7 : Int).toNat) (c := co15) hC53 (by omega) hroom53
    obtain ⟨A53, hA53⟩ : ∃ A1, A1 = (if co15 = (ji7 : Int).toNat then Ao15 else (Ao15 : Option Addr).map (·.add ((ji7 : Int).toNat * 1))) := ⟨_, rfl⟩
    obtain ⟨c53, hc53⟩ : ∃ c1, c1 = co15 - (ji7 : Int).toNat := ⟨_, rfl⟩
    have hy53 : y635.length = t601.length - (ji7 : Int).toNat := (by rw [Ny635.out, List.length_drop] <;> omega)
    rw [show (t601).drop (ji7 : Int).toNat = y635 from Ny635.out.symm] at hr53
    replace hr53 : Kd.C (Kd.int .i64) _ A53 y635.length y635 := (by rw [hA53]; exact hr53)
    rw [← hy53, ← hA53, ← hc53] at hcut53
    have HR638 := Aside0.mk hr53
    have HC638 := Aside0.mk (show y635.length ≤ c53 from by rw [hy53, hc53]; exact Nat.sub_le_sub_right hroom53 _)
    clear hr53 hC53 hroom53 hi053 hsz53 hc53
    have KY53 := Aside0.mk hy53
    have KA53 := Aside0.mk hA53
    clear hy53 hA53
    have KL53 := Aside0.mk (show (ji7 : Int).toNat ≤ t601.length from by omega)
    replace q53 := eq_true q53
    obtain ⟨Ao54, co54, eo54⟩ := Kd.R_slice HO_9.out
    subst eo54
    obtain ⟨Ao55, co55, eo55⟩ := Kd.S_slice HO_10.out
    subst eo55
    go_wp2_with (first | ((with_reducible refine gate_callee (f := 26) rfl ?_); refine goesL_ (some 66) rfl rfl Try.func26 (by kernel_rfl) rfl #[.slice Ao54 t622.length co54, .slice Ao55 t623.length co55, .slice A53 y635.length c53] rfl zT16 ?_; (with_reducible refine (impl_FlatRun.calls kj12 _ _ t622 _ _ t623 _ _ y635 t639 t640 _ ?side1 ?side2 ?side3 ?side4 ?side5 ?side6 A38.out).mono ?_); (case side1 => exact zC16 (Kd.R_reads' HO_9.out).2.2); (case side2 => exact (Kd.R_reads' HO_9.out).2.1); (case side3 => exact zC16 (Kd.S_reads' HO_10.out).2.2); (case side4 => exact (Kd.S_reads' HO_10.out).2.1); (case side5 => exact zC16 HR638.out); (case side6 => exact HC638.out); rintro e w56 ⟨v641, v643, rfl, ho0, ho1, hb⟩; refine ⟨_, rfl, ?_⟩; have n0_ := Aside0.mk (Kd.R_elder' (zR16 HO_3.out) (Kd.R_base ho0) hb); have n1_ := Aside0.mk (Kd.S_mono (Kd.S_told (Kd.S_told (Kd.S_old (zS16 HO_4.out) hb) (Kd.R_base ho0)) (Kd.S_base ho1)) (fun _ h_ => h_.1)); have n2_ := Aside0.mk (Kd.R_elder' (zR16 HO_5.out) (Kd.R_base ho0) hb); have n3_ := Aside0.mk (Kd.R_elder' (zR16 HO_9.out) (Kd.R_base ho0) hb); have n4_ := Aside0.mk (Kd.S_mono (Kd.S_told (Kd.S_told (Kd.S_old (zS16 HO_10.out) hb) (Kd.R_base ho0)) (Kd.S_base ho1)) (fun _ h_ => h_.1)); have n5_ := Aside0.mk (Kd.R_lower (Kd.R_new' (Kd.R_new' (Kd.R_new' ho0 (Kd.R_lt (zR16 HO_3.out))) (Kd.R_lt (zR16 HO_5.out))) (Kd.R_lt (zR16 HO_9.out))) (below_size (zB16_0))); have n6_ := Aside0.mk (Kd.S_lower (Kd.S_new' (Kd.S_new' (Kd.S_new' (Kd.S_new' (Kd.S_new' ho1 (Kd.R_lt (zR16 HO_3.out))) (Kd.S_lt (zS16 HO_4.out))) (Kd.R_lt (zR16 HO_5.out))) (Kd.R_lt (zR16 HO_9.out))) (Kd.S_lt (zS16 HO_10.out))) (below_size (zB16_0))); have n7_ := Aside0.mk (Kd.C_below (by repeat (first | (with_reducible exact HR638.out) | (with_reducible refine Kd.C_alloc ?_ _) | (with_reducible refine Kd.C_drewN ?_ _) | (with_reducible refine Kd.C_drew ?_) | exact HR638.out)) hb); have n8_ := Aside0.mk (below_step (zB16_0) hb); clear HO_3; clear HO_4; clear HO_5; clear HO_9; clear HO_10; clear HR638; clear HB; have HO_3 := n0_; have HO_4 := n1_; have HO_5 := n2_; have HO_9 := n3_; have HO_10 := n4_; have HO642 := n5_; have HO644 := n6_; have HR638 := n7_; have HB := n8_; clear n0_ n1_ n2_ n3_ n4_ n5_ n6_ n7_ n8_; (try clear hb); (try clear hb2); (try clear hk); (try clear hi); (try clear ho0); (try clear ho1)) | ((with_reducible refine gate_callee (f := 26) rfl ?_); refine goesL_ (some 73) rfl rfl Try.func26 (by kernel_rfl) rfl #[.slice Ao17 t599.length co17, .slice Ao18 t600.length co18, .slice Ao15 t601.length co15] rfl zT16 ?_; (with_reducible refine (impl_FlatRun.calls kj12 _ _ t599 _ _ t600 _ _ t601 t645 t646 _ ?side1 ?side2 ?side3 ?side4 ?side5 ?side6 A39.out).mono ?_); (case side1 => exact zC16 (Kd.R_reads' HO_3.out).2.2); (case side2 => exact (Kd.R_reads' HO_3.out).2.1); (case side3 => exact zC16 (Kd.S_reads' HO_4.out).2.2); (case side4 => exact (Kd.S_reads' HO_4.out).2.1); (case side5 => exact zC16 (Kd.R_reads' HO_5.out).2.2); (case side6 => exact (Kd.R_reads' HO_5.out).2.1); rintro e w57 ⟨v647, v649, rfl, ho0, ho1, hb⟩; refine ⟨_, rfl, ?_⟩; have n0_ := Aside0.mk (Kd.R_elder' (zR16 HO_3.out) (Kd.R_base ho0) hb); have n1_ := Aside0.mk (Kd.S_mono (Kd.S_told (Kd.S_told (Kd.S_old (zS16 HO_4.out) hb) (Kd.R_base ho0)) (Kd.S_base ho1)) (fun _ h_ => h_.1)); have n2_ := Aside0.mk (Kd.R_elder' (zR16 HO_5.out) (Kd.R_base ho0) hb); have n3_ := Aside0.mk (Kd.R_elder' (zR16 HO_9.out) (Kd.R_base ho0) hb); have n4_ := Aside0.mk (Kd.S_mono (Kd.S_told (Kd.S_told (Kd.S_old (zS16 HO_10.out) hb) (Kd.R_base ho0)) (Kd.S_base ho1)) (fun _ h_ => h_.1)); have n5_ := Aside0.mk (Kd.R_elder' (zR16 HO642.out) (Kd.R_base ho0) hb); have n6_ := Aside0.mk (Kd.S_mono (Kd.S_told (Kd.S_told (Kd.S_old (zS16 HO644.out) hb) (Kd.R_base ho0)) (Kd.S_base ho1)) (fun _ h_ => h_.1)); have n7_ := Aside0.mk (Kd.R_lower (Kd.R_new' (Kd.R_new' (Kd.R_new' (Kd.R_new' ho0 (Kd.R_lt (zR16 HO_3.out))) (Kd.R_lt (zR16 HO_5.out))) (Kd.R_lt (zR16 HO_9.out))) (Kd.R_lt (zR16 HO642.out))) (below_size (zB16_0))); have n8_ := Aside0.mk (Kd.S_lower (Kd.S_new' (Kd.S_new' (Kd.S_new' (Kd.S_new' (Kd.S_new' (Kd.S_new' (Kd.S_new' ho1 (Kd.R_lt (zR16 HO_3.out))) (Kd.S_lt (zS16 HO_4.out))) (Kd.R_lt (zR16 HO_5.out))) (Kd.R_lt (zR16 HO_9.out))) (Kd.S_lt (zS16 HO_10.out))) (Kd.R_lt (zR16 HO642.out))) (Kd.S_lt (zS16 HO644.out))) (below_size (zB16_0))); have n9_ := Aside0.mk (Kd.C_below (by repeat (first | (with_reducible exact HR638.out) | (with_reducible refine Kd.C_alloc ?_ _) | (with_reducible refine Kd.C_drewN ?_ _) | (with_reducible refine Kd.C_drew ?_) | exact HR638.out)) hb); have n10_ := Aside0.mk (below_step (zB16_0) hb); clear HO_3; clear HO_4; clear HO_5; clear HO_9; clear HO_10; clear HO642; clear HO644; clear HR638; clear HB; have HO_3 := n0_; have HO_4 := n1_; have HO_5 := n2_; have HO_9 := n3_; have HO_10 := n4_; have HO642 := n5_; have HO644 := n6_; have HO648 := n7_; have HO650 := n8_; have HR638 := n9_; have HB := n10_; clear n0_ n1_ n2_ n3_ n4_ n5_ n6_ n7_ n8_ n9_ n10_; (try clear hb); (try clear hb2); (try clear hk); (try clear hi); (try clear ho0); (try clear ho1); obtain ⟨Ao58, co58, eo58⟩ := Kd.R_slice HO642.out; subst eo58; obtain ⟨Ao59, co59, eo59⟩ := Kd.R_slice HO648.out; subst eo59) | ((with_reducible refine gate_callee (f := 13) rfl ?_); refine goesL_ (some 78) rfl rfl Try.func13 (by kernel_rfl) rfl #[.slice Ao58 t639.length co58, .slice Ao59 t645.length co59] rfl zT16 ?_; (with_reducible refine (laws_sameInts.calls kj12 _ _ t639 _ _ t645 false _ ?side1 ?side2 ?side3 ?side4 A40.out).mono ?_); (case side1 => exact zC16 (Kd.R_reads' HO642.out).2.2); (case side2 => exact (Kd.R_reads' HO642.out).2.1); (case side3 => exact zC16 (Kd.R_reads' HO648.out).2.2); (case side4 => exact (Kd.R_reads' HO648.out).2.1); rintro e w' ⟨rfl, ⟨nd, rfl⟩⟩; refine ⟨_, rfl, ?_⟩))
    go_ret
    exact ⟨by first | rfl | (simp [errW_none, errW_some] <;> rfl) | (simp only [← hji7]; first | rfl | (simp [errW_none, errW_some] <;> rfl)) | (simp [*, errW_none, errW_some] <;> rfl), zB16_0⟩
   subst c41
   have H1 : ((laws_sameHarts.f kj12 t640 t646).bind fun t652 => (some t652)) = some r := by rw [if_pos rfl] at H; exact H
   clear H
   have H := H1
   clear H1
   replace H := Option.bind_eq_some_iff.mp H
   obtain ⟨t652, A420, H⟩ := H
   replace H : (some t652) = some r := H
   have A42 := Aside0.mk A420
   clear A420
   obtain rfl := Option.some.inj H
   have q43 : (ji7 : Int) ≤ ((t601.length : Int) : Int) := zA16
   obtain ⟨i043, hi043, _, hsz43, _⟩ := info_parts info3
   have hroom43 : t601.length ≤ co15 := (Kd.R_reads' HO_5.out).2.1
   have hC43 : Kd.C (Kd.int .i64) _ Ao15 t601.length t601 := (Kd.R_reads' HO_5.out).2.2
   have q043 : (0 : Int) ≤ (ji7 : Int) := zA16
   have hcut43 := cut_from (P := Try.prog) 24 3 .i64 Try.underlying24 hi043 1 hsz43 Ao15 t601.length co15 ji7 q043 q43
   have hr43 := Kd.C_drop (m := (ji7 : Int).toNat) (c := co15) hC43 (by omega) hroom43
   obtain ⟨A43, hA43⟩ : ∃ A1, A1 = (if co15 = (ji7 : Int).toNat then Ao15 else (Ao15 : Option Addr).map (·.add ((ji7 : Int).toNat * 1))) := ⟨_, rfl⟩
   obtain ⟨c43, hc43⟩ : ∃ c1, c1 = co15 - (ji7 : Int).toNat := ⟨_, rfl⟩
   have hy43 : y635.length = t601.length - (ji7 : Int).toNat := (by rw [Ny635.out, List.length_drop] <;> omega)
   rw [show (t601).drop (ji7 : Int).toNat = y635 from Ny635.out.symm] at hr43
   replace hr43 : Kd.C (Kd.int .i64) _ A43 y635.length y635 := (by rw [hA43]; exact hr43)
   rw [← hy43, ← hA43, ← hc43] at hcut43
   have HR638 := Aside0.mk hr43
   have HC638 := Aside0.mk (show y635.length ≤ c43 from by rw [hy43, hc43]; exact Nat.sub_le_sub_right hroom43 _)
   clear hr43 hC43 hroom43 hi043 hsz43 hc43
   have KY43 := Aside0.mk hy43
   have KA43 := Aside0.mk hA43
   clear hy43 hA43
   have KL43 := Aside0.mk (show (ji7 : Int).toNat ≤ t601.length from by omega)
   replace q43 := eq_true q43
   obtain ⟨Ao44, co44, eo44⟩ := Kd.R_slice HO_9.out
   subst eo44
   obtain ⟨Ao45, co45, eo45⟩ := Kd.S_slice HO_10.out
   subst eo45
   go_wp2_with (first | ((with_reducible refine gate_callee (f := 26) rfl ?_); refine goesL_ (some 66) rfl rfl Try.func26 (by kernel_rfl) rfl #[.slice Ao44 t622.length co44, .slice Ao45 t623.length co45, .slice A43 y635.length c43] rfl zT16 ?_; (with_reducible refine (impl_FlatRun.calls kj12 _ _ t622 _ _ t623 _ _ y635 t639 t640 _ ?side1 ?side2 ?side3 ?side4 ?side5 ?side6 A38.out).mono ?_); (case side1 => exact zC16 (Kd.R_reads' HO_9.out).2.2); (case side2 => exact (Kd.R_reads' HO_9.out).2.1); (case side3 => exact zC16 (Kd.S_reads' HO_10.out).2.2); (case side4 => exact (Kd.S_reads' HO_10.out).2.1); (case side5 => exact zC16 HR638.out); (case side6 => exact HC638.out); rintro e w46 ⟨v641, v643, rfl, ho0, ho1, hb⟩; refine ⟨_, rfl, ?_⟩; have n0_ := Aside0.mk (Kd.R_elder' (zR16 HO_3.out) (Kd.R_base ho0) hb); have n1_ := Aside0.mk (Kd.S_mono (Kd.S_told (Kd.S_told (Kd.S_old (zS16 HO_4.out) hb) (Kd.R_base ho0)) (Kd.S_base ho1)) (fun _ h_ => h_.1)); have n2_ := Aside0.mk (Kd.R_elder' (zR16 HO_5.out) (Kd.R_base ho0) hb); have n3_ := Aside0.mk (Kd.R_elder' (zR16 HO_9.out) (Kd.R_base ho0) hb); have n4_ := Aside0.mk (Kd.S_mono (Kd.S_told (Kd.S_told (Kd.S_old (zS16 HO_10.out) hb) (Kd.R_base ho0)) (Kd.S_base ho1)) (fun _ h_ => h_.1)); have n5_ := Aside0.mk (Kd.R_lower (Kd.R_new' (Kd.R_new' (Kd.R_new' ho0 (Kd.R_lt (zR16 HO_3.out))) (Kd.R_lt (zR16 HO_5.out))) (Kd.R_lt (zR16 HO_9.out))) (below_size (zB16_0))); have n6_ := Aside0.mk (Kd.S_lower (Kd.S_new' (Kd.S_new' (Kd.S_new' (Kd.S_new' (Kd.S_new' ho1 (Kd.R_lt (zR16 HO_3.out))) (Kd.S_lt (zS16 HO_4.out))) (Kd.R_lt (zR16 HO_5.out))) (Kd.R_lt (zR16 HO_9.out))) (Kd.S_lt (zS16 HO_10.out))) (below_size (zB16_0))); have n7_ := Aside0.mk (Kd.C_below (by repeat (first | (with_reducible exact HR638.out) | (with_reducible refine Kd.C_alloc ?_ _) | (with_reducible refine Kd.C_drewN ?_ _) | (with_reducible refine Kd.C_drew ?_) | exact HR638.out)) hb); have n8_ := Aside0.mk (below_step (zB16_0) hb); clear HO_3; clear HO_4; clear HO_5; clear HO_9; clear HO_10; clear HR638; clear HB; have HO_3 := n0_; have HO_4 := n1_; have HO_5 := n2_; have HO_9 := n3_; have HO_10 := n4_; have HO642 := n5_; have HO644 := n6_; have HR638 := n7_; have HB := n8_; clear n0_ n1_ n2_ n3_ n4_ n5_ n6_ n7_ n8_; (try clear hb); (try clear hb2); (try clear hk); (try clear hi); (try clear ho0); (try clear ho1)) | ((with_reducible refine gate_callee (f := 26) rfl ?_); refine goesL_ (some 73) rfl rfl Try.func26 (by kernel_rfl) rfl #[.slice Ao17 t599.length co17, .slice Ao18 t600.length co18, .slice Ao15 t601.length co15] rfl zT16 ?_; (with_reducible refine (impl_FlatRun.calls kj12 _ _ t599 _ _ t600 _ _ t601 t645 t646 _ ?side1 ?side2 ?side3 ?side4 ?side5 ?side6 A39.out).mono ?_); (case side1 => exact zC16 (Kd.R_reads' HO_3.out).2.2); (case side2 => exact (Kd.R_reads' HO_3.out).2.1); (case side3 => exact zC16 (Kd.S_reads' HO_4.out).2.2); (case side4 => exact (Kd.S_reads' HO_4.out).2.1); (case side5 => exact zC16 (Kd.R_reads' HO_5.out).2.2); (case side6 => exact (Kd.R_reads' HO_5.out).2.1); rintro e w47 ⟨v647, v649, rfl, ho0, ho1, hb⟩; refine ⟨_, rfl, ?_⟩; have n0_ := Aside0.mk (Kd.R_elder' (zR16 HO_3.out) (Kd.R_base ho0) hb); have n1_ := Aside0.mk (Kd.S_mono (Kd.S_told (Kd.S_told (Kd.S_old (zS16 HO_4.out) hb) (Kd.R_base ho0)) (Kd.S_base ho1)) (fun _ h_ => h_.1)); have n2_ := Aside0.mk (Kd.R_elder' (zR16 HO_5.out) (Kd.R_base ho0) hb); have n3_ := Aside0.mk (Kd.R_elder' (zR16 HO_9.out) (Kd.R_base ho0) hb); have n4_ := Aside0.mk (Kd.S_mono (Kd.S_told (Kd.S_told (Kd.S_old (zS16 HO_10.out) hb) (Kd.R_base ho0)) (Kd.S_base ho1)) (fun _ h_ => h_.1)); have n5_ := Aside0.mk (Kd.R_elder' (zR16 HO642.out) (Kd.R_base ho0) hb); have n6_ := Aside0.mk (Kd.S_mono (Kd.S_told (Kd.S_told (Kd.S_old (zS16 HO644.out) hb) (Kd.R_base ho0)) (Kd.S_base ho1)) (fun _ h_ => h_.1)); have n7_ := Aside0.mk (Kd.R_lower (Kd.R_new' (Kd.R_new' (Kd.R_new' (Kd.R_new' ho0 (Kd.R_lt (zR16 HO_3.out))) (Kd.R_lt (zR16 HO_5.out))) (Kd.R_lt (zR16 HO_9.out))) (Kd.R_lt (zR16 HO642.out))) (below_size (zB16_0))); have n8_ := Aside0.mk (Kd.S_lower (Kd.S_new' (Kd.S_new' (Kd.S_new' (Kd.S_new' (Kd.S_new' (Kd.S_new' (Kd.S_new' ho1 (Kd.R_lt (zR16 HO_3.out))) (Kd.S_lt (zS16 HO_4.out))) (Kd.R_lt (zR16 HO_5.out))) (Kd.R_lt (zR16 HO_9.out))) (Kd.S_lt (zS16 HO_10.out))) (Kd.R_lt (zR16 HO642.out))) (Kd.S_lt (zS16 HO644.out))) (below_size (zB16_0))); have n9_ := Aside0.mk (Kd.C_below (by repeat (first | (with_reducible exact HR638.out) | (with_reducible refine Kd.C_alloc ?_ _) | (with_reducible refine Kd.C_drewN ?_ _) | (with_reducible refine Kd.C_drew ?_) | exact HR638.out)) hb); have n10_ := Aside0.mk (below_step (zB16_0) hb); clear HO_3; clear HO_4; clear HO_5; clear HO_9; clear HO_10; clear HO642; clear HO644; clear HR638; clear HB; have HO_3 := n0_; have HO_4 := n1_; have HO_5 := n2_; have HO_9 := n3_; have HO_10 := n4_; have HO642 := n5_; have HO644 := n6_; have HO648 := n7_; have HO650 := n8_; have HR638 := n9_; have HB := n10_; clear n0_ n1_ n2_ n3_ n4_ n5_ n6_ n7_ n8_ n9_ n10_; (try clear hb); (try clear hb2); (try clear hk); (try clear hi); (try clear ho0); (try clear ho1); obtain ⟨Ao48, co48, eo48⟩ := Kd.R_slice HO642.out; subst eo48; obtain ⟨Ao49, co49, eo49⟩ := Kd.R_slice HO648.out; subst eo49) | ((with_reducible refine gate_callee (f := 13) rfl ?_); refine goesL_ (some 78) rfl rfl Try.func13 (by kernel_rfl) rfl #[.slice Ao48 t639.length co48, .slice Ao49 t645.length co49] rfl zT16 ?_; (with_reducible refine (laws_sameInts.calls kj12 _ _ t639 _ _ t645 true _ ?side1 ?side2 ?side3 ?side4 A40.out).mono ?_); (case side1 => exact zC16 (Kd.R_reads' HO642.out).2.2); (case side2 => exact (Kd.R_reads' HO642.out).2.1); (case side3 => exact zC16 (Kd.R_reads' HO648.out).2.2); (case side4 => exact (Kd.R_reads' HO648.out).2.1); rintro e w' ⟨rfl, ⟨nd, rfl⟩⟩; refine ⟨_, rfl, ?_⟩; obtain ⟨Ao50, co50, eo50⟩ := Kd.S_slice HO644.out; subst eo50; obtain ⟨Ao51, co51, eo51⟩ := Kd.S_slice HO650.out; subst eo51) | (go_at_call 30; (with_reducible refine (laws_sameHarts.calls kj12 _ _ t640 _ _ t646 t652 _ ?side1 ?side2 ?side3 ?side4 A42.out).mono ?_); (case side1 => exact zC16 (Kd.S_reads' HO644.out).2.2); (case side2 => exact (Kd.S_reads' HO644.out).2.1); (case side3 => exact zC16 (Kd.S_reads' HO650.out).2.2); (case side4 => exact (Kd.S_reads' HO650.out).2.1); rintro e w52 ⟨rfl, hb⟩; have n0_ := Aside0.mk (Kd.R_below (zR16 HO_3.out) hb); have n1_ := Aside0.mk (Kd.S_below (zS16 HO_4.out) hb); have n2_ := Aside0.mk (Kd.R_below (zR16 HO_5.out) hb); have n3_ := Aside0.mk (Kd.R_below (zR16 HO_9.out) hb); have n4_ := Aside0.mk (Kd.S_below (zS16 HO_10.out) hb); have n5_ := Aside0.mk (Kd.R_below (zR16 HO642.out) hb); have n6_ := Aside0.mk (Kd.S_below (zS16 HO644.out) hb); have n7_ := Aside0.mk (Kd.R_below (zR16 HO648.out) hb); have n8_ := Aside0.mk (Kd.S_below (zS16 HO650.out) hb); have n9_ := Aside0.mk (Kd.C_below (by repeat (first | (with_reducible exact HR638.out) | (with_reducible refine Kd.C_alloc ?_ _) | (with_reducible refine Kd.C_drewN ?_ _) | (with_reducible refine Kd.C_drew ?_) | exact HR638.out)) hb); have n10_ := Aside0.mk (below_step (zB16_0) hb); clear HO_3; clear HO_4; clear HO_5; clear HO_9; clear HO_10; clear HO642; clear HO644; clear HO648; clear HO650; clear HR638; clear HB; have HO_3 := n0_; have HO_4 := n1_; have HO_5 := n2_; have HO_9 := n3_; have HO_10 := n4_; have HO642 := n5_; have HO644 := n6_; have HO648 := n7_; have HO650 := n8_; have HR638 := n9_; have HB := n10_; clear n0_ n1_ n2_ n3_ n4_ n5_ n6_ n7_ n8_ n9_ n10_; (try clear hb); (try clear hb2); (try clear hk); (try clear hi)))
   go_ret
   exact ⟨by first | rfl | (simp [errW_none, errW_some] <;> rfl) | (simp only [← hji7]; first | rfl | (simp [errW_none, errW_some] <;> rfl)) | (simp [*, errW_none, errW_some] <;> rfl), zB16_0⟩

/-- THE ONE PURE STATEMENT of laws_FnResumes: yours. -/
def laws_FnResumes.Pure : Prop := ∀ (l0 : List Int), l0.length ≤ maxLen → l0.length * 1 ≤ 140737488351232 → (∀ x ∈ l0, (Lit.int .u8 x).wf = true) → ∃ k, laws_FnResumes.f k l0 = some true
theorem laws_FnResumes.walk (P : laws_FnResumes.Pure) (a0 : Option Addr) (len0 cap0 : Nat) (z0 : List Int) (w : World) (w0 : (a0 = none ∧ len0 = 0 ∧ cap0 = 0 ∧ z0 = []) ∨ ∃ x, a0 = some x ∧ len0 ≤ cap0 ∧ cap0 ≤ maxLen ∧ z0.length = cap0 ∧ (∀ i, i < z0.length → w.cell? (x.add i) = some (.int .u8 (z0.getD i 0))) ∧ ∀ n ∈ z0, (Lit.int .u8 n).wf = true) (y0 : len0 * 1 ≤ 140737488351232) :
  Calls Try.prog 4 #[.slice a0 len0 cap0] w fun e w' => e = .returned (.bool true) ∧ Below w.heap.size w w' := by
 obtain ⟨l0, rfl, hr0, hm0, hw0, hc0⟩ := ReadsInt.ofRowC w0
 obtain ⟨k, h⟩ := P l0 hm0 y0 hw0
 refine (laws_FnResumes.calls k _ _ l0 true w (Kd.C_of_reads (d := (0 : Int)) (h1 := fun _ => rfl) hr0) hc0 h).mono ?_
 rintro e w' ⟨rfl, hd⟩
 exact ⟨rfl, hd⟩

end Go.Proofs.Ytajhfpeijagpnaa.PFnResumes
