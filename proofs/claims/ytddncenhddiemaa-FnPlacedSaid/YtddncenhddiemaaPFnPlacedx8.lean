-- made by wip/tools/myprint.py out of the seat's translation
import Derived.Test.YtddncenhddiemaaPFnPlacedx0
import Derived.Test.YtddncenhddiemaaPFnPlacedx2
import Derived.Test.YtddncenhddiemaaPFnPlacedx3
import Derived.Test.YtddncenhddiemaaPFnPlacedx4
import Derived.Test.YtddncenhddiemaaPFnPlacedx5
import Derived.Test.YtddncenhddiemaaPFnPlacedx6
import Derived.Test.YtddncenhddiemaaPFnPlacedx7
namespace Go.Proofs.Ytddncenhddiemaa.PFnPlaced
open Go.RowKit Go.Proofs.YtddncenhddiemaaW.PrintWords Go.Proofs.YtddncenhddiemaaW.PrintLast Go.Proofs.YtddncenhddiemaaW.PrintMore
attribute [local go_sem] max2_int min2_int max_two min_two max_three min_three max_four min_four   -- for this text's walks alone
set_option linter.unusedVariables false
set_option linter.unusedSimpArgs false
theorem zR8 {p q : Prop} (x : q) (h : q → p := by intro h; (with_reducible repeat (first | apply Kd.R_alloc | apply Kd.R_drewN | apply Kd.R_drew)); exact h) : p := h x
theorem zA8 {p : Prop} [Decidable p] (h : decide p = true := by first | (with_reducible assumption) | assumption) : p := of_decide_eq_true h
theorem zT8 {p : Prop} (h : p := by (try simp only [List.map_toArray, List.map_cons, List.map_nil]); first | done | rfl | (simp only [List.length_drop, List.length_take]; rfl)) : p := h
theorem zC8 {p q : Prop} (x : q) (h : q → p := by intro h; repeat (first | exact h | (with_reducible refine Kd.C_alloc ?_ _) | (with_reducible refine Kd.C_drewN ?_ _) | (with_reducible refine Kd.C_drew ?_))) : p := h x
theorem zE8 {p : Prop} (h : p := by first | rfl | (simp [errW_none, errW_some] <;> rfl) | (simp [*, errW_none, errW_some] <;> rfl)) : p := h
theorem zB8_0 {p : Prop} (h : p := by repeat (first | (with_reducible first | exact HB.out | apply below_alloc | apply pw_below_drewN | apply below_drew1) | exact HB.out)) : p := h

/-! ### laws_FnPlaced: function 10 -/
def laws_FnPlaced.j0 : Nat → List Int → Int → List Int → List Int → Bool → Bool → Option (Bool)
  | 0, _, _, _, _, _, _ => none
  | k + 1, x17, x18, x19, x20, x21, x126 => if x126 = true then (some false) else (if x21 = true then (if 0 ≤ x18 then (if x18 ≤ (wrap64 (x18 + (x19.length : Int))) then (if (wrap64 (x18 + (x19.length : Int))) ≤ (x20.length : Int) then ((laws_sameInts.f k ((x20.take ((wrap64 (x18 + (x19.length : Int))) : Int).toNat).drop (x18 : Int).toNat) x19).bind fun t466 => (if t466 = true then (if x18 ≤ (x20.length : Int) then (if x18 ≤ (x17.length : Int) then ((laws_sameInts.f k (x20.take (x18 : Int).toNat) (x17.take (x18 : Int).toNat)).bind fun t475 => (if t475 = true then (if 0 ≤ (wrap64 (x18 + (x19.length : Int))) then (if (wrap64 (x18 + (x19.length : Int))) ≤ (x17.length : Int) then ((laws_sameInts.f k (x20.drop ((wrap64 (x18 + (x19.length : Int))) : Int).toNat) (x17.drop ((wrap64 (x18 + (x19.length : Int))) : Int).toNat)).bind fun t484 => (some t484)) else (none)) else (none)) else (some false))) else (none)) else (none)) else (some false))) else (none)) else (none)) else (none)) else ((laws_sameInts.f k x20 x17).bind fun t485 => (some t485)))
def laws_FnPlaced.f (k : Nat) (l0 : List Int) : Option (Bool) := (laws_big.f l0).bind fun t416 => (if t416 = true then (some true) else ((spec_DrawCountCode.f k l0).bind fun bt417 => ((impl_CountCode.f k bt417.1 bt417.2.1 bt417.2.2).bind fun bt420 => ((spec_CountCode.f k bt417.1 bt417.2.1 bt417.2.2).bind fun bt424 => ((spec_DrawLoseCode.f k l0).bind fun bt428 => ((impl_LoseCode.f k bt428.1 bt428.2.1 bt428.2.2).bind fun bt431 => ((spec_LoseCode.f k bt428.1 bt428.2.1 bt428.2.2).bind fun bt435 => ((spec_DrawPlace.f k l0).bind fun bt439 => ((impl_Place.f k bt439.1 bt439.2.1 bt439.2.2).bind fun bt446 => ((spec_Place.f k bt439.1 bt439.2.1 bt439.2.2).bind fun bt450 => ((spec_DrawAllHalt.f k l0).bind fun t454 => (if (bt420.2 != bt424.2) = true then (laws_FnPlaced.j0 k bt439.1 bt439.2.1 bt439.2.2 bt446.1 bt446.2 true) else ((laws_sameInts.f k bt420.1 bt424.1).bind fun t457 => (if t457 = true then (if (bt431.2 != bt435.2) = true then (laws_FnPlaced.j0 k bt439.1 bt439.2.1 bt439.2.2 bt446.1 bt446.2 true) else ((laws_sameInts.f k bt431.1 bt435.1).bind fun t458 => (if t458 = true then (if (bt446.2 != bt450.2) = true then (laws_FnPlaced.j0 k bt439.1 bt439.2.1 bt439.2.2 bt446.1 bt446.2 true) else ((laws_sameInts.f k bt446.1 bt450.1).bind fun t459 => (if t459 = true then ((impl_AllHalt.f k t454).bind fun t460 => ((spec_AllHalt.f k t454).bind fun t461 => (laws_FnPlaced.j0 k bt439.1 bt439.2.1 bt439.2.2 bt446.1 bt446.2 (t460 != t461)))) else (laws_FnPlaced.j0 k bt439.1 bt439.2.1 bt439.2.2 bt446.1 bt446.2 true)))) else (laws_FnPlaced.j0 k bt439.1 bt439.2.1 bt439.2.2 bt446.1 bt446.2 true)))) else (laws_FnPlaced.j0 k bt439.1 bt439.2.1 bt439.2.2 bt446.1 bt446.2 true)))))))))))))))
theorem laws_FnPlaced.mono_l : ∀ k, (∀ y0 y1 y2 y3 y4 y5, LeO (laws_FnPlaced.j0 k y0 y1 y2 y3 y4 y5) (laws_FnPlaced.j0 (k + 1) y0 y1 y2 y3 y4 y5))
  | 0 => fun _ _ _ _ _ _ r h => by simp [laws_FnPlaced.j0] at h
  | k + 1 => by
    have ih0 := laws_FnPlaced.mono_l k
    · intro y0 y1 y2 y3 y4 y5
      unfold laws_FnPlaced.j0
      repeat' first
      | (with_reducible exact ih0 _ _ _ _ _ _)
      | (with_reducible exact impl_AllHalt.mono _ _)
      | (with_reducible exact impl_CountCode.mono _ _ _ _)
      | (with_reducible exact impl_LoseCode.mono _ _ _ _)
      | (with_reducible exact impl_Place.mono _ _ _ _)
      | (with_reducible exact laws_sameInts.mono _ _ _)
      | (with_reducible exact spec_AllHalt.mono _ _)
      | (with_reducible exact spec_CountCode.mono _ _ _ _)
      | (with_reducible exact spec_DrawAllHalt.mono _ _)
      | (with_reducible exact spec_DrawCountCode.mono _ _)
      | (with_reducible exact spec_DrawLoseCode.mono _ _)
      | (with_reducible exact spec_DrawPlace.mono _ _)
      | (with_reducible exact spec_LoseCode.mono _ _ _ _)
      | (with_reducible exact spec_Place.mono _ _ _ _)
      | (with_reducible exact LeO.refl _)
      | (with_reducible exact LeO.none _)
      | (with_reducible refine LeO.ite ?_ ?_)
      | (with_reducible refine LeO.bind ?_ (fun _ => ?_))
      | exact ih0 _ _ _ _ _ _
      | exact impl_AllHalt.mono _ _
      | exact impl_CountCode.mono _ _ _ _
      | exact impl_LoseCode.mono _ _ _ _
      | exact impl_Place.mono _ _ _ _
      | exact laws_sameInts.mono _ _ _
      | exact spec_AllHalt.mono _ _
      | exact spec_CountCode.mono _ _ _ _
      | exact spec_DrawAllHalt.mono _ _
      | exact spec_DrawCountCode.mono _ _
      | exact spec_DrawLoseCode.mono _ _
      | exact spec_DrawPlace.mono _ _
      | exact spec_LoseCode.mono _ _ _ _
      | exact spec_Place.mono _ _ _ _
      | exact LeO.none _
      | refine LeO.ite ?_ ?_
      | refine LeO.bind ?_ (fun _ => ?_)
theorem laws_FnPlaced.mono : ∀ a0 k, LeO (laws_FnPlaced.f k a0) (laws_FnPlaced.f (k + 1) a0) := by
  intro a0 k
  have ih0 := laws_FnPlaced.mono_l k
  unfold laws_FnPlaced.f
  repeat' first
      | (with_reducible exact ih0 _ _ _ _ _ _)
      | (with_reducible exact impl_AllHalt.mono _ _)
      | (with_reducible exact impl_CountCode.mono _ _ _ _)
      | (with_reducible exact impl_LoseCode.mono _ _ _ _)
      | (with_reducible exact impl_Place.mono _ _ _ _)
      | (with_reducible exact laws_sameInts.mono _ _ _)
      | (with_reducible exact spec_AllHalt.mono _ _)
      | (with_reducible exact spec_CountCode.mono _ _ _ _)
      | (with_reducible exact spec_DrawAllHalt.mono _ _)
      | (with_reducible exact spec_DrawCountCode.mono _ _)
      | (with_reducible exact spec_DrawLoseCode.mono _ _)
      | (with_reducible exact spec_DrawPlace.mono _ _)
      | (with_reducible exact spec_LoseCode.mono _ _ _ _)
      | (with_reducible exact spec_Place.mono _ _ _ _)
      | (with_reducible exact LeO.refl _)
      | (with_reducible exact LeO.none _)
      | (with_reducible refine LeO.ite ?_ ?_)
      | (with_reducible refine LeO.bind ?_ (fun _ => ?_))
      | exact ih0 _ _ _ _ _ _
      | exact impl_AllHalt.mono _ _
      | exact impl_CountCode.mono _ _ _ _
      | exact impl_LoseCode.mono _ _ _ _
      | exact impl_Place.mono _ _ _ _
      | exact laws_sameInts.mono _ _ _
      | exact spec_AllHalt.mono _ _
      | exact spec_CountCode.mono _ _ _ _
      | exact spec_DrawAllHalt.mono _ _
      | exact spec_DrawCountCode.mono _ _
      | exact spec_DrawLoseCode.mono _ _
      | exact spec_DrawPlace.mono _ _
      | exact spec_LoseCode.mono _ _ _ _
      | exact spec_Place.mono _ _ _ _
      | exact LeO.none _
      | refine LeO.ite ?_ ?_
      | refine LeO.bind ?_ (fun _ => ?_)
def laws_FnPlaced.T17 : Bool × List (List Nat × List Nat) := (true, [([], []), ([], []), ([], []), ([], []), ([3], [3]), ([2, 4], [2, 4]), ([0, 1, 5], [0, 1, 5]), ([], []), ([6, 7], [6, 7]), ([8, 8], [8]), ([9], [9]), ([9], [9]), ([10, 11, 9], [9, 10, 11]), ([9], [9]), ([9], [9]), ([13, 14, 9], [9, 13, 14]), ([12, 15, 9, 9], [9, 12, 15]), ([9, 16], [9, 16]), ([17, 16], [17]), ([18], [18]), ([18], [18]), ([18], [18]), ([21, 18], [18, 21]), ([20, 22, 18], [18, 20, 22]), ([19, 23, 18], [18, 19, 23]), ([18], [18]), ([18], [18]), ([18], [18]), ([27, 18], [18, 27]), ([26, 28, 18], [18, 26, 28]), ([25, 29, 18], [18, 25, 29]), ([24, 30, 18, 18], [18, 24, 30]), ([18, 31], [18, 31]), ([32, 31, 0, 1, 2, 3, 4, 5, 6, 7, 8, 9, 10, 11, 12, 13, 14, 15, 16, 17, 18, 19, 20, 21, 22, 23, 24, 25, 26, 27, 28, 29, 30, 31, 32], [32])])
def laws_FnPlaced.B17 : List Nat := [0, 0, 0, 0, 8, 28, 63, 0, 255, 511, 1023, 1023, 4095, 1023, 1023, 25599, 65535, 131071, 262143, 524287, 524287, 524287, 2621439, 7864319, 16777215, 524287, 524287, 524287, 134742015, 470286335, 1040711679, 2147483647, 4294967295, 8589934591]
theorem laws_FnPlaced.tab17 : rtab .any (opsOf Try.f10 17) = laws_FnPlaced.T17 := by kernel_rfl
theorem laws_FnPlaced.bits17 : waitsOk laws_FnPlaced.T17.2 laws_FnPlaced.B17 = true := by kernel_rfl
set_option maxHeartbeats 8000000 in
set_option maxRecDepth 100000 in
theorem laws_FnPlaced.calls (k : Nat) (A0 : Option Addr) (c0 : Nat) (l0 : List Int) (r : Bool) (w : World) (hr0 : Kd.C (Kd.int .u8) w A0 l0.length l0) (hc0 : l0.length ≤ c0) (h : laws_FnPlaced.f k l0 = some r) :
    Calls Try.prog 10 #[.slice A0 l0.length c0] w fun e w' => e = .returned (.bool r) ∧ Below w.heap.size w w' := by
  have HR0 := Aside0.mk hr0
  have HC0 := Aside0.mk hc0
  clear hr0 hc0
  have HB := Aside0.mk (Below.refl w.heap.size w)
  have H : ((laws_big.f l0).bind fun t416 => (if t416 = true then (some true) else ((spec_DrawCountCode.f k l0).bind fun bt417 => ((impl_CountCode.f k bt417.1 bt417.2.1 bt417.2.2).bind fun bt420 => ((spec_CountCode.f k bt417.1 bt417.2.1 bt417.2.2).bind fun bt424 => ((spec_DrawLoseCode.f k l0).bind fun bt428 => ((impl_LoseCode.f k bt428.1 bt428.2.1 bt428.2.2).bind fun bt431 => ((spec_LoseCode.f k bt428.1 bt428.2.1 bt428.2.2).bind fun bt435 => ((spec_DrawPlace.f k l0).bind fun bt439 => ((impl_Place.f k bt439.1 bt439.2.1 bt439.2.2).bind fun bt446 => ((spec_Place.f k bt439.1 bt439.2.1 bt439.2.2).bind fun bt450 => ((spec_DrawAllHalt.f k l0).bind fun t454 => (if (bt420.2 != bt424.2) = true then (laws_FnPlaced.j0 k bt439.1 bt439.2.1 bt439.2.2 bt446.1 bt446.2 true) else ((laws_sameInts.f k bt420.1 bt424.1).bind fun t457 => (if t457 = true then (if (bt431.2 != bt435.2) = true then (laws_FnPlaced.j0 k bt439.1 bt439.2.1 bt439.2.2 bt446.1 bt446.2 true) else ((laws_sameInts.f k bt431.1 bt435.1).bind fun t458 => (if t458 = true then (if (bt446.2 != bt450.2) = true then (laws_FnPlaced.j0 k bt439.1 bt439.2.1 bt439.2.2 bt446.1 bt446.2 true) else ((laws_sameInts.f k bt446.1 bt450.1).bind fun t459 => (if t459 = true then ((impl_AllHalt.f k t454).bind fun t460 => ((spec_AllHalt.f k t454).bind fun t461 => (laws_FnPlaced.j0 k bt439.1 bt439.2.1 bt439.2.2 bt446.1 bt446.2 (t460 != t461)))) else (laws_FnPlaced.j0 k bt439.1 bt439.2.1 bt439.2.2 bt446.1 bt446.2 true)))) else (laws_FnPlaced.j0 k bt439.1 bt439.2.1 bt439.2.2 bt446.1 bt446.2 true)))) else (laws_FnPlaced.j0 k bt439.1 bt439.2.1 bt439.2.2 bt446.1 bt446.2 true)))))))))))))))) = some r := h
  clear h
  replace H := Option.bind_eq_some_iff.mp H
  obtain ⟨t416, A20, H⟩ := H
  replace H : (if t416 = true then (some true) else ((spec_DrawCountCode.f k l0).bind fun bt417 => ((impl_CountCode.f k bt417.1 bt417.2.1 bt417.2.2).bind fun bt420 => ((spec_CountCode.f k bt417.1 bt417.2.1 bt417.2.2).bind fun bt424 => ((spec_DrawLoseCode.f k l0).bind fun bt428 => ((impl_LoseCode.f k bt428.1 bt428.2.1 bt428.2.2).bind fun bt431 => ((spec_LoseCode.f k bt428.1 bt428.2.1 bt428.2.2).bind fun bt435 => ((spec_DrawPlace.f k l0).bind fun bt439 => ((impl_Place.f k bt439.1 bt439.2.1 bt439.2.2).bind fun bt446 => ((spec_Place.f k bt439.1 bt439.2.1 bt439.2.2).bind fun bt450 => ((spec_DrawAllHalt.f k l0).bind fun t454 => (if (bt420.2 != bt424.2) = true then (laws_FnPlaced.j0 k bt439.1 bt439.2.1 bt439.2.2 bt446.1 bt446.2 true) else ((laws_sameInts.f k bt420.1 bt424.1).bind fun t457 => (if t457 = true then (if (bt431.2 != bt435.2) = true then (laws_FnPlaced.j0 k bt439.1 bt439.2.1 bt439.2.2 bt446.1 bt446.2 true) else ((laws_sameInts.f k bt431.1 bt435.1).bind fun t458 => (if t458 = true then (if (bt446.2 != bt450.2) = true then (laws_FnPlaced.j0 k bt439.1 bt439.2.1 bt439.2.2 bt446.1 bt446.2 true) else ((laws_sameInts.f k bt446.1 bt450.1).bind fun t459 => (if t459 = true then ((impl_AllHalt.f k t454).bind fun t460 => ((spec_AllHalt.f k t454).bind fun t461 => (laws_FnPlaced.j0 k bt439.1 bt439.2.1 bt439.2.2 bt446.1 bt446.2 (t460 != t461)))) else (laws_FnPlaced.j0 k bt439.1 bt439.2.1 bt439.2.2 bt446.1 bt446.2 true)))) else (laws_FnPlaced.j0 k bt439.1 bt439.2.1 bt439.2.2 bt446.1 bt446.2 true)))) else (laws_FnPlaced.j0 k bt439.1 bt439.2.1 bt439.2.2 bt446.1 bt446.2 true))))))))))))))) = some r := H
  have A2 := Aside0.mk A20
  clear A20
  by_cases c3 : t416 = true
  · subst c3
    have H1 : (some true) = some r := by rw [if_pos rfl] at H; exact H
    clear H
    have H := H1
    clear H1
    obtain rfl := Option.some.inj H
    go_enter Try.func10, Try.ntmps10
    go_wp2_with (first | ((with_reducible refine gate_callee (f := 14) rfl ?_); refine goesL_ (some 26) rfl rfl Try.func14 (by kernel_rfl) rfl #[.slice A0 l0.length c0] rfl zT8 ?_; (with_reducible refine (laws_big.calls _ _ l0 true _ ?side1 ?side2 A2.out).mono ?_); (case side1 => exact zC8 HR0.out); (case side2 => exact HC0.out); rintro e w' ⟨rfl, ⟨nd, rfl⟩⟩; refine ⟨_, rfl, ?_⟩))
    go_ret
    exact ⟨zE8, zB8_0⟩
  replace c3 := Bool.eq_false_iff.mpr c3
  subst c3
  have H1 : ((spec_DrawCountCode.f k l0).bind fun bt417 => ((impl_CountCode.f k bt417.1 bt417.2.1 bt417.2.2).bind fun bt420 => ((spec_CountCode.f k bt417.1 bt417.2.1 bt417.2.2).bind fun bt424 => ((spec_DrawLoseCode.f k l0).bind fun bt428 => ((impl_LoseCode.f k bt428.1 bt428.2.1 bt428.2.2).bind fun bt431 => ((spec_LoseCode.f k bt428.1 bt428.2.1 bt428.2.2).bind fun bt435 => ((spec_DrawPlace.f k l0).bind fun bt439 => ((impl_Place.f k bt439.1 bt439.2.1 bt439.2.2).bind fun bt446 => ((spec_Place.f k bt439.1 bt439.2.1 bt439.2.2).bind fun bt450 => ((spec_DrawAllHalt.f k l0).bind fun t454 => (if (bt420.2 != bt424.2) = true then (laws_FnPlaced.j0 k bt439.1 bt439.2.1 bt439.2.2 bt446.1 bt446.2 true) else ((laws_sameInts.f k bt420.1 bt424.1).bind fun t457 => (if t457 = true then (if (bt431.2 != bt435.2) = true then (laws_FnPlaced.j0 k bt439.1 bt439.2.1 bt439.2.2 bt446.1 bt446.2 true) else ((laws_sameInts.f k bt431.1 bt435.1).bind fun t458 => (if t458 = true then (if (bt446.2 != bt450.2) = true then (laws_FnPlaced.j0 k bt439.1 bt439.2.1 bt439.2.2 bt446.1 bt446.2 true) else ((laws_sameInts.f k bt446.1 bt450.1).bind fun t459 => (if t459 = true then ((impl_AllHalt.f k t454).bind fun t460 => ((spec_AllHalt.f k t454).bind fun t461 => (laws_FnPlaced.j0 k bt439.1 bt439.2.1 bt439.2.2 bt446.1 bt446.2 (t460 != t461)))) else (laws_FnPlaced.j0 k bt439.1 bt439.2.1 bt439.2.2 bt446.1 bt446.2 true)))) else (laws_FnPlaced.j0 k bt439.1 bt439.2.1 bt439.2.2 bt446.1 bt446.2 true)))) else (laws_FnPlaced.j0 k bt439.1 bt439.2.1 bt439.2.2 bt446.1 bt446.2 true)))))))))))))) = some r := by rw [if_neg (show ¬ (false = true) by decide)] at H; exact H
  clear H
  have H := H1
  clear H1
  replace H := Option.bind_eq_some_iff.mp H
  obtain ⟨⟨t417, t418, t419⟩, A40, H⟩ := H
  replace H : ((impl_CountCode.f k t417 t418 t419).bind fun bt420 => ((spec_CountCode.f k t417 t418 t419).bind fun bt424 => ((spec_DrawLoseCode.f k l0).bind fun bt428 => ((impl_LoseCode.f k bt428.1 bt428.2.1 bt428.2.2).bind fun bt431 => ((spec_LoseCode.f k bt428.1 bt428.2.1 bt428.2.2).bind fun bt435 => ((spec_DrawPlace.f k l0).bind fun bt439 => ((impl_Place.f k bt439.1 bt439.2.1 bt439.2.2).bind fun bt446 => ((spec_Place.f k bt439.1 bt439.2.1 bt439.2.2).bind fun bt450 => ((spec_DrawAllHalt.f k l0).bind fun t454 => (if (bt420.2 != bt424.2) = true then (laws_FnPlaced.j0 k bt439.1 bt439.2.1 bt439.2.2 bt446.1 bt446.2 true) else ((laws_sameInts.f k bt420.1 bt424.1).bind fun t457 => (if t457 = true then (if (bt431.2 != bt435.2) = true then (laws_FnPlaced.j0 k bt439.1 bt439.2.1 bt439.2.2 bt446.1 bt446.2 true) else ((laws_sameInts.f k bt431.1 bt435.1).bind fun t458 => (if t458 = true then (if (bt446.2 != bt450.2) = true then (laws_FnPlaced.j0 k bt439.1 bt439.2.1 bt439.2.2 bt446.1 bt446.2 true) else ((laws_sameInts.f k bt446.1 bt450.1).bind fun t459 => (if t459 = true then ((impl_AllHalt.f k t454).bind fun t460 => ((spec_AllHalt.f k t454).bind fun t461 => (laws_FnPlaced.j0 k bt439.1 bt439.2.1 bt439.2.2 bt446.1 bt446.2 (t460 != t461)))) else (laws_FnPlaced.j0 k bt439.1 bt439.2.1 bt439.2.2 bt446.1 bt446.2 true)))) else (laws_FnPlaced.j0 k bt439.1 bt439.2.1 bt439.2.2 bt446.1 bt446.2 true)))) else (laws_FnPlaced.j0 k bt439.1 bt439.2.1 bt439.2.2 bt446.1 bt446.2 true))))))))))))) = some r := H
  have A4 := Aside0.mk A40
  clear A40
  replace H := Option.bind_eq_some_iff.mp H
  obtain ⟨⟨t420, t421⟩, A50, H⟩ := H
  replace H : ((spec_CountCode.f k t417 t418 t419).bind fun bt424 => ((spec_DrawLoseCode.f k l0).bind fun bt428 => ((impl_LoseCode.f k bt428.1 bt428.2.1 bt428.2.2).bind fun bt431 => ((spec_LoseCode.f k bt428.1 bt428.2.1 bt428.2.2).bind fun bt435 => ((spec_DrawPlace.f k l0).bind fun bt439 => ((impl_Place.f k bt439.1 bt439.2.1 bt439.2.2).bind fun bt446 => ((spec_Place.f k bt439.1 bt439.2.1 bt439.2.2).bind fun bt450 => ((spec_DrawAllHalt.f k l0).bind fun t454 => (if (t421 != bt424.2) = true then (laws_FnPlaced.j0 k bt439.1 bt439.2.1 bt439.2.2 bt446.1 bt446.2 true) else ((laws_sameInts.f k t420 bt424.1).bind fun t457 => (if t457 = true then (if (bt431.2 != bt435.2) = true then (laws_FnPlaced.j0 k bt439.1 bt439.2.1 bt439.2.2 bt446.1 bt446.2 true) else ((laws_sameInts.f k bt431.1 bt435.1).bind fun t458 => (if t458 = true then (if (bt446.2 != bt450.2) = true then (laws_FnPlaced.j0 k bt439.1 bt439.2.1 bt439.2.2 bt446.1 bt446.2 true) else ((laws_sameInts.f k bt446.1 bt450.1).bind fun t459 => (if t459 = true then ((impl_AllHalt.f k t454).bind fun t460 => ((spec_AllHalt.f k t454).bind fun t461 => (laws_FnPlaced.j0 k bt439.1 bt439.2.1 bt439.2.2 bt446.1 bt446.2 (t460 != t461)))) else (laws_FnPlaced.j0 k bt439.1 bt439.2.1 bt439.2.2 bt446.1 bt446.2 true)))) else (laws_FnPlaced.j0 k bt439.1 bt439.2.1 bt439.2.2 bt446.1 bt446.2 true)))) else (laws_FnPlaced.j0 k bt439.1 bt439.2.1 bt439.2.2 bt446.1 bt446.2 true)))))))))))) = some r := H
  have A5 := Aside0.mk A50
  clear A50
  replace H := Option.bind_eq_some_iff.mp H
  obtain ⟨⟨t424, t425⟩, A60, H⟩ := H
  replace H : ((spec_DrawLoseCode.f k l0).bind fun bt428 => ((impl_LoseCode.f k bt428.1 bt428.2.1 bt428.2.2).bind fun bt431 => ((spec_LoseCode.f k bt428.1 bt428.2.1 bt428.2.2).bind fun bt435 => ((spec_DrawPlace.f k l0).bind fun bt439 => ((impl_Place.f k bt439.1 bt439.2.1 bt439.2.2).bind fun bt446 => ((spec_Place.f k bt439.1 bt439.2.1 bt439.2.2).bind fun bt450 => ((spec_DrawAllHalt.f k l0).bind fun t454 => (if (t421 != t425) = true then (laws_FnPlaced.j0 k bt439.1 bt439.2.1 bt439.2.2 bt446.1 bt446.2 true) else ((laws_sameInts.f k t420 t424).bind fun t457 => (if t457 = true then (if (bt431.2 != bt435.2) = true then (laws_FnPlaced.j0 k bt439.1 bt439.2.1 bt439.2.2 bt446.1 bt446.2 true) else ((laws_sameInts.f k bt431.1 bt435.1).bind fun t458 => (if t458 = true then (if (bt446.2 != bt450.2) = true then (laws_FnPlaced.j0 k bt439.1 bt439.2.1 bt439.2.2 bt446.1 bt446.2 true) else ((laws_sameInts.f k bt446.1 bt450.1).bind fun t459 => (if t459 = true then ((impl_AllHalt.f k t454).bind fun t460 => ((spec_AllHalt.f k t454).bind fun t461 => (laws_FnPlaced.j0 k bt439.1 bt439.2.1 bt439.2.2 bt446.1 bt446.2 (t460 != t461)))) else (laws_FnPlaced.j0 k bt439.1 bt439.2.1 bt439.2.2 bt446.1 bt446.2 true)))) else (laws_FnPlaced.j0 k bt439.1 bt439.2.1 bt439.2.2 bt446.1 bt446.2 true)))) else (laws_FnPlaced.j0 k bt439.1 bt439.2.1 bt439.2.2 bt446.1 bt446.2 true))))))))))) = some r := H
  have A6 := Aside0.mk A60
  clear A60
  replace H := Option.bind_eq_some_iff.mp H
  obtain ⟨⟨t428, t429, t430⟩, A70, H⟩ := H
  replace H : ((impl_LoseCode.f k t428 t429 t430).bind fun bt431 => ((spec_LoseCode.f k t428 t429 t430).bind fun bt435 => ((spec_DrawPlace.f k l0).bind fun bt439 => ((impl_Place.f k bt439.1 bt439.2.1 bt439.2.2).bind fun bt446 => ((spec_Place.f k bt439.1 bt439.2.1 bt439.2.2).bind fun bt450 => ((spec_DrawAllHalt.f k l0).bind fun t454 => (if (t421 != t425) = true then (laws_FnPlaced.j0 k bt439.1 bt439.2.1 bt439.2.2 bt446.1 bt446.2 true) else ((laws_sameInts.f k t420 t424).bind fun t457 => (if t457 = true then (if (bt431.2 != bt435.2) = true then (laws_FnPlaced.j0 k bt439.1 bt439.2.1 bt439.2.2 bt446.1 bt446.2 true) else ((laws_sameInts.f k bt431.1 bt435.1).bind fun t458 => (if t458 = true then (if (bt446.2 != bt450.2) = true then (laws_FnPlaced.j0 k bt439.1 bt439.2.1 bt439.2.2 bt446.1 bt446.2 true) else ((laws_sameInts.f k bt446.1 bt450.1).bind fun t459 => (if t459 = true then ((impl_AllHalt.f k t454).bind fun t460 => ((spec_AllHalt.f k t454).bind fun t461 => (laws_FnPlaced.j0 k bt439.1 bt439.2.1 bt439.2.2 bt446.1 bt446.2 (t460 != t461)))) else (laws_FnPlaced.j0 k bt439.1 bt439.2.1 bt439.2.2 bt446.1 bt446.2 true)))) else (laws_FnPlaced.j0 k bt439.1 bt439.2.1 bt439.2.2 bt446.1 bt446.2 true)))) else (laws_FnPlaced.j0 k bt439.1 bt439.2.1 bt439.2.2 bt446.1 bt446.2 true)))))))))) = some r := H
  have A7 := Aside0.mk A70
  clear A70
  replace H := Option.bind_eq_some_iff.mp H
  obtain ⟨⟨t431, t432⟩, A80, H⟩ := H
  replace H : ((spec_LoseCode.f k t428 t429 t430).bind fun bt435 => ((spec_DrawPlace.f k l0).bind fun bt439 => ((impl_Place.f k bt439.1 bt439.2.1 bt439.2.2).bind fun bt446 => ((spec_Place.f k bt439.1 bt439.2.1 bt439.2.2).bind fun bt450 => ((spec_DrawAllHalt.f k l0).bind fun t454 => (if (t421 != t425) = true then (laws_FnPlaced.j0 k bt439.1 bt439.2.1 bt439.2.2 bt446.1 bt446.2 true) else ((laws_sameInts.f k t420 t424).bind fun t457 => (if t457 = true then (if (t432 != bt435.2) = true then (laws_FnPlaced.j0 k bt439.1 bt439.2.1 bt439.2.2 bt446.1 bt446.2 true) else ((laws_sameInts.f k t431 bt435.1).bind fun t458 => (if t458 = true then (if (bt446.2 != bt450.2) = true then (laws_FnPlaced.j0 k bt439.1 bt439.2.1 bt439.2.2 bt446.1 bt446.2 true) else ((laws_sameInts.f k bt446.1 bt450.1).bind fun t459 => (if t459 = true then ((impl_AllHalt.f k t454).bind fun t460 => ((spec_AllHalt.f k t454).bind fun t461 => (laws_FnPlaced.j0 k bt439.1 bt439.2.1 bt439.2.2 bt446.1 bt446.2 (t460 != t461)))) else (laws_FnPlaced.j0 k bt439.1 bt439.2.1 bt439.2.2 bt446.1 bt446.2 true)))) else (laws_FnPlaced.j0 k bt439.1 bt439.2.1 bt439.2.2 bt446.1 bt446.2 true)))) else (laws_FnPlaced.j0 k bt439.1 bt439.2.1 bt439.2.2 bt446.1 bt446.2 true))))))))) = some r := H
  have A8 := Aside0.mk A80
  clear A80
  replace H := Option.bind_eq_some_iff.mp H
  obtain ⟨⟨t435, t436⟩, A90, H⟩ := H
  replace H : ((spec_DrawPlace.f k l0).bind fun bt439 => ((impl_Place.f k bt439.1 bt439.2.1 bt439.2.2).bind fun bt446 => ((spec_Place.f k bt439.1 bt439.2.1 bt439.2.2).bind fun bt450 => ((spec_DrawAllHalt.f k l0).bind fun t454 => (if (t421 != t425) = true then (laws_FnPlaced.j0 k bt439.1 bt439.2.1 bt439.2.2 bt446.1 bt446.2 true) else ((laws_sameInts.f k t420 t424).bind fun t457 => (if t457 = true then (if (t432 != t436) = true then (laws_FnPlaced.j0 k bt439.1 bt439.2.1 bt439.2.2 bt446.1 bt446.2 true) else ((laws_sameInts.f k t431 t435).bind fun t458 => (if t458 = true then (if (bt446.2 != bt450.2) = true then (laws_FnPlaced.j0 k bt439.1 bt439.2.1 bt439.2.2 bt446.1 bt446.2 true) else ((laws_sameInts.f k bt446.1 bt450.1).bind fun t459 => (if t459 = true then ((impl_AllHalt.f k t454).bind fun t460 => ((spec_AllHalt.f k t454).bind fun t461 => (laws_FnPlaced.j0 k bt439.1 bt439.2.1 bt439.2.2 bt446.1 bt446.2 (t460 != t461)))) else (laws_FnPlaced.j0 k bt439.1 bt439.2.1 bt439.2.2 bt446.1 bt446.2 true)))) else (laws_FnPlaced.j0 k bt439.1 bt439.2.1 bt439.2.2 bt446.1 bt446.2 true)))) else (laws_FnPlaced.j0 k bt439.1 bt439.2.1 bt439.2.2 bt446.1 bt446.2 true)))))))) = some r := H
  have A9 := Aside0.mk A90
  clear A90
  replace H := Option.bind_eq_some_iff.mp H
  obtain ⟨⟨t439, t440, t441⟩, A100, H⟩ := H
  replace H : ((impl_Place.f k t439 t440 t441).bind fun bt446 => ((spec_Place.f k t439 t440 t441).bind fun bt450 => ((spec_DrawAllHalt.f k l0).bind fun t454 => (if (t421 != t425) = true then (laws_FnPlaced.j0 k t439 t440 t441 bt446.1 bt446.2 true) else ((laws_sameInts.f k t420 t424).bind fun t457 => (if t457 = true then (if (t432 != t436) = true then (laws_FnPlaced.j0 k t439 t440 t441 bt446.1 bt446.2 true) else ((laws_sameInts.f k t431 t435).bind fun t458 => (if t458 = true then (if (bt446.2 != bt450.2) = true then (laws_FnPlaced.j0 k t439 t440 t441 bt446.1 bt446.2 true) else ((laws_sameInts.f k bt446.1 bt450.1).bind fun t459 => (if t459 = true then ((impl_AllHalt.f k t454).bind fun t460 => ((spec_AllHalt.f k t454).bind fun t461 => (laws_FnPlaced.j0 k t439 t440 t441 bt446.1 bt446.2 (t460 != t461)))) else (laws_FnPlaced.j0 k t439 t440 t441 bt446.1 bt446.2 true)))) else (laws_FnPlaced.j0 k t439 t440 t441 bt446.1 bt446.2 true)))) else (laws_FnPlaced.j0 k t439 t440 t441 bt446.1 bt446.2 true))))))) = some r := H
  have A10 := Aside0.mk A100
  clear A100
  replace H := Option.bind_eq_some_iff.mp H
  obtain ⟨⟨t446, t447⟩, A110, H⟩ := H
  replace H : ((spec_Place.f k t439 t440 t441).bind fun bt450 => ((spec_DrawAllHalt.f k l0).bind fun t454 => (if (t421 != t425) = true then (laws_FnPlaced.j0 k t439 t440 t441 t446 t447 true) else ((laws_sameInts.f k t420 t424).bind fun t457 => (if t457 = true then (if (t432 != t436) = true then (laws_FnPlaced.j0 k t439 t440 t441 t446 t447 true) else ((laws_sameInts.f k t431 t435).bind fun t458 => (if t458 = true then (if (t447 != bt450.2) = true then (laws_FnPlaced.j0 k t439 t440 t441 t446 t447 true) else ((laws_sameInts.f k t446 bt450.1).bind fun t459 => (if t459 = true then ((impl_AllHalt.f k t454).bind fun t460 => ((spec_AllHalt.f k t454).bind fun t461 => (laws_FnPlaced.j0 k t439 t440 t441 t446 t447 (t460 != t461)))) else (laws_FnPlaced.j0 k t439 t440 t441 t446 t447 true)))) else (laws_FnPlaced.j0 k t439 t440 t441 t446 t447 true)))) else (laws_FnPlaced.j0 k t439 t440 t441 t446 t447 true)))))) = some r := H
  have A11 := Aside0.mk A110
  clear A110
  replace H := Option.bind_eq_some_iff.mp H
  obtain ⟨⟨t450, t451⟩, A120, H⟩ := H
  replace H : ((spec_DrawAllHalt.f k l0).bind fun t454 => (if (t421 != t425) = true then (laws_FnPlaced.j0 k t439 t440 t441 t446 t447 true) else ((laws_sameInts.f k t420 t424).bind fun t457 => (if t457 = true then (if (t432 != t436) = true then (laws_FnPlaced.j0 k t439 t440 t441 t446 t447 true) else ((laws_sameInts.f k t431 t435).bind fun t458 => (if t458 = true then (if (t447 != t451) = true then (laws_FnPlaced.j0 k t439 t440 t441 t446 t447 true) else ((laws_sameInts.f k t446 t450).bind fun t459 => (if t459 = true then ((impl_AllHalt.f k t454).bind fun t460 => ((spec_AllHalt.f k t454).bind fun t461 => (laws_FnPlaced.j0 k t439 t440 t441 t446 t447 (t460 != t461)))) else (laws_FnPlaced.j0 k t439 t440 t441 t446 t447 true)))) else (laws_FnPlaced.j0 k t439 t440 t441 t446 t447 true)))) else (laws_FnPlaced.j0 k t439 t440 t441 t446 t447 true))))) = some r := H
  have A12 := Aside0.mk A120
  clear A120
  replace H := Option.bind_eq_some_iff.mp H
  obtain ⟨t454, A130, H⟩ := H
  replace H : (if (t421 != t425) = true then (laws_FnPlaced.j0 k t439 t440 t441 t446 t447 true) else ((laws_sameInts.f k t420 t424).bind fun t457 => (if t457 = true then (if (t432 != t436) = true then (laws_FnPlaced.j0 k t439 t440 t441 t446 t447 true) else ((laws_sameInts.f k t431 t435).bind fun t458 => (if t458 = true then (if (t447 != t451) = true then (laws_FnPlaced.j0 k t439 t440 t441 t446 t447 true) else ((laws_sameInts.f k t446 t450).bind fun t459 => (if t459 = true then ((impl_AllHalt.f k t454).bind fun t460 => ((spec_AllHalt.f k t454).bind fun t461 => (laws_FnPlaced.j0 k t439 t440 t441 t446 t447 (t460 != t461)))) else (laws_FnPlaced.j0 k t439 t440 t441 t446 t447 true)))) else (laws_FnPlaced.j0 k t439 t440 t441 t446 t447 true)))) else (laws_FnPlaced.j0 k t439 t440 t441 t446 t447 true)))) = some r := H
  have A13 := Aside0.mk A130
  clear A130
  have HC14 := Aside0.mk H
  clear H
  go_enter Try.func10, Try.ntmps10
  go_upto_region 13 with (first | ((with_reducible refine gate_callee (f := 14) rfl ?_); refine goesL_ (some 26) rfl rfl Try.func14 (by kernel_rfl) rfl #[.slice A0 l0.length c0] rfl zT8 ?_; (with_reducible refine (laws_big.calls _ _ l0 false _ ?side1 ?side2 A2.out).mono ?_); (case side1 => exact zC8 HR0.out); (case side2 => exact HC0.out); rintro e w' ⟨rfl, ⟨nd, rfl⟩⟩; refine ⟨_, rfl, ?_⟩) | ((with_reducible refine gate_callee (f := 47) rfl ?_); refine goesL_ (some 29) rfl rfl Try.func47 (by kernel_rfl) rfl #[.slice A0 l0.length c0] rfl zT8 ?_; (with_reducible refine (spec_DrawCountCode.calls k _ _ l0 t417 t418 t419 _ ?side1 ?side2 A4.out).mono ?_); (case side1 => exact zC8 HR0.out); (case side2 => exact HC0.out); rintro e w15 ⟨rfl, hb⟩; refine ⟨_, rfl, ?_⟩; have n0_ := Aside0.mk (below_step (zB8_0) hb); clear HB; have HB := n0_; clear n0_; (try clear hb); (try clear hb2); (try clear hk); (try clear hi)) | ((with_reducible refine gate_callee (f := 16) rfl ?_); refine goesL_ (some 37) rfl rfl Try.func16 (by kernel_rfl) rfl #[.int .i64 t417, .int .i64 t418, .int .i64 t419] rfl zT8 ?_; (with_reducible refine (impl_CountCode.calls k t417 t418 t419 t420 t421 _ A5.out).mono ?_); rintro e w16 ⟨v422, rfl, ho0, hb⟩; refine ⟨_, rfl, ?_⟩; have n0_ := Aside0.mk (Kd.R_lower ho0 (below_size (zB8_0))); have n1_ := Aside0.mk (below_step (zB8_0) hb); clear HB; have HO423 := n0_; have HB := n1_; clear n0_ n1_; (try clear hb); (try clear hb2); (try clear hk); (try clear hi); (try clear ho0)) | ((with_reducible refine gate_callee (f := 17) rfl ?_); refine goesL_ (some 44) rfl rfl Try.func17 (by kernel_rfl) rfl #[.int .i64 t417, .int .i64 t418, .int .i64 t419] rfl zT8 ?_; (with_reducible refine (spec_CountCode.calls k t417 t418 t419 t424 t425 _ A6.out).mono ?_); rintro e w17 ⟨v426, rfl, ho0, hb⟩; refine ⟨_, rfl, ?_⟩; have n0_ := Aside0.mk (Kd.R_elder' (zR8 HO423.out) (Kd.R_base ho0) hb); have n1_ := Aside0.mk (Kd.R_lower (Kd.R_new' ho0 (Kd.R_lt (zR8 HO423.out))) (below_size (zB8_0))); have n2_ := Aside0.mk (below_step (zB8_0) hb); clear HO423; clear HB; have HO423 := n0_; have HO427 := n1_; have HB := n2_; clear n0_ n1_ n2_; (try clear hb); (try clear hb2); (try clear hk); (try clear hi); (try clear ho0)) | ((with_reducible refine gate_callee (f := 48) rfl ?_); refine goesL_ (some 49) rfl rfl Try.func48 (by kernel_rfl) rfl #[.slice A0 l0.length c0] rfl zT8 ?_; (with_reducible refine (spec_DrawLoseCode.calls k _ _ l0 t428 t429 t430 _ ?side1 ?side2 A7.out).mono ?_); (case side1 => exact zC8 (Kd.C_below HR0.out HB.out)); (case side2 => exact HC0.out); rintro e w18 ⟨rfl, hb⟩; refine ⟨_, rfl, ?_⟩; have n0_ := Aside0.mk (Kd.R_below (zR8 HO423.out) hb); have n1_ := Aside0.mk (Kd.R_below (zR8 HO427.out) hb); have n2_ := Aside0.mk (below_step (zB8_0) hb); clear HO423; clear HO427; clear HB; have HO423 := n0_; have HO427 := n1_; have HB := n2_; clear n0_ n1_ n2_; (try clear hb); (try clear hb2); (try clear hk); (try clear hi)) | ((with_reducible refine gate_callee (f := 22) rfl ?_); refine goesL_ (some 57) rfl rfl Try.func22 (by kernel_rfl) rfl #[.int .i64 t428, .int .i64 t429, .int .i64 t430] rfl zT8 ?_; (with_reducible refine (impl_LoseCode.calls k t428 t429 t430 t431 t432 _ A8.out).mono ?_); rintro e w19 ⟨v433, rfl, ho0, hb⟩; refine ⟨_, rfl, ?_⟩; have n0_ := Aside0.mk (Kd.R_elder' (zR8 HO423.out) (Kd.R_base ho0) hb); have n1_ := Aside0.mk (Kd.R_elder' (zR8 HO427.out) (Kd.R_base ho0) hb); have n2_ := Aside0.mk (Kd.R_lower (Kd.R_new' (Kd.R_new' ho0 (Kd.R_lt (zR8 HO423.out))) (Kd.R_lt (zR8 HO427.out))) (below_size (zB8_0))); have n3_ := Aside0.mk (below_step (zB8_0) hb); clear HO423; clear HO427; clear HB; have HO423 := n0_; have HO427 := n1_; have HO434 := n2_; have HB := n3_; clear n0_ n1_ n2_ n3_; (try clear hb); (try clear hb2); (try clear hk); (try clear hi); (try clear ho0)) | ((with_reducible refine gate_callee (f := 23) rfl ?_); refine goesL_ (some 64) rfl rfl Try.func23 (by kernel_rfl) rfl #[.int .i64 t428, .int .i64 t429, .int .i64 t430] rfl zT8 ?_; (with_reducible refine (spec_LoseCode.calls k t428 t429 t430 t435 t436 _ A9.out).mono ?_); rintro e w20 ⟨v437, rfl, ho0, hb⟩; refine ⟨_, rfl, ?_⟩; have n0_ := Aside0.mk (Kd.R_elder' (zR8 HO423.out) (Kd.R_base ho0) hb); have n1_ := Aside0.mk (Kd.R_elder' (zR8 HO427.out) (Kd.R_base ho0) hb); have n2_ := Aside0.mk (Kd.R_elder' (zR8 HO434.out) (Kd.R_base ho0) hb); have n3_ := Aside0.mk (Kd.R_lower (Kd.R_new' (Kd.R_new' (Kd.R_new' ho0 (Kd.R_lt (zR8 HO423.out))) (Kd.R_lt (zR8 HO427.out))) (Kd.R_lt (zR8 HO434.out))) (below_size (zB8_0))); have n4_ := Aside0.mk (below_step (zB8_0) hb); clear HO423; clear HO427; clear HO434; clear HB; have HO423 := n0_; have HO427 := n1_; have HO434 := n2_; have HO438 := n3_; have HB := n4_; clear n0_ n1_ n2_ n3_ n4_; (try clear hb); (try clear hb2); (try clear hk); (try clear hi); (try clear ho0)) | ((with_reducible refine gate_callee (f := 49) rfl ?_); refine goesL_ (some 69) rfl rfl Try.func49 (by kernel_rfl) rfl #[.slice A0 l0.length c0] rfl zT8 ?_; (with_reducible refine (spec_DrawPlace.calls k _ _ l0 t439 t440 t441 _ ?side1 ?side2 A10.out).mono ?_); (case side1 => exact zC8 (Kd.C_below HR0.out HB.out)); (case side2 => exact HC0.out); rintro e w21 ⟨v442, v444, rfl, ho0, ho1, hb⟩; refine ⟨_, rfl, ?_⟩; have n0_ := Aside0.mk (Kd.R_mono (Kd.R_told (Kd.R_told (Kd.R_old (zR8 HO423.out) hb) (Kd.R_base ho0)) (Kd.R_base ho1)) (fun _ h_ => h_.1)); have n1_ := Aside0.mk (Kd.R_mono (Kd.R_told (Kd.R_told (Kd.R_old (zR8 HO427.out) hb) (Kd.R_base ho0)) (Kd.R_base ho1)) (fun _ h_ => h_.1)); have n2_ := Aside0.mk (Kd.R_mono (Kd.R_told (Kd.R_told (Kd.R_old (zR8 HO434.out) hb) (Kd.R_base ho0)) (Kd.R_base ho1)) (fun _ h_ => h_.1)); have n3_ := Aside0.mk (Kd.R_mono (Kd.R_told (Kd.R_told (Kd.R_old (zR8 HO438.out) hb) (Kd.R_base ho0)) (Kd.R_base ho1)) (fun _ h_ => h_.1)); have n4_ := Aside0.mk (Kd.R_lower (Kd.R_new' (Kd.R_new' (Kd.R_new' (Kd.R_new' ho0 (Kd.R_lt (zR8 HO423.out))) (Kd.R_lt (zR8 HO427.out))) (Kd.R_lt (zR8 HO434.out))) (Kd.R_lt (zR8 HO438.out))) (below_size (zB8_0))); have n5_ := Aside0.mk (Kd.R_lower (Kd.R_new' (Kd.R_new' (Kd.R_new' (Kd.R_new' ho1 (Kd.R_lt (zR8 HO423.out))) (Kd.R_lt (zR8 HO427.out))) (Kd.R_lt (zR8 HO434.out))) (Kd.R_lt (zR8 HO438.out))) (below_size (zB8_0))); have n6_ := Aside0.mk (below_step (zB8_0) hb); clear HO423; clear HO427; clear HO434; clear HO438; clear HB; have HO423 := n0_; have HO427 := n1_; have HO434 := n2_; have HO438 := n3_; have HO443 := n4_; have HO445 := n5_; have HB := n6_; clear n0_ n1_ n2_ n3_ n4_ n5_ n6_; (try clear hb); (try clear hb2); (try clear hk); (try clear hi); (try clear ho0); (try clear ho1); obtain ⟨Ao22, co22, eo22⟩ := Kd.R_slice HO443.out; subst eo22; obtain ⟨Ao23, co23, eo23⟩ := Kd.R_slice HO445.out; subst eo23) | ((with_reducible refine gate_callee (f := 18) rfl ?_); refine goesL_ (some 77) rfl rfl Try.func18 (by kernel_rfl) rfl #[.slice Ao22 t439.length co22, .int .i64 t440, .slice Ao23 t441.length co23] rfl zT8 ?_; (with_reducible refine (impl_Place.calls k _ _ t439 t440 _ _ t441 t446 t447 _ ?side1 ?side2 ?side3 ?side4 A11.out).mono ?_); (case side1 => repeat (first | exact (Kd.R_reads' HO443.out).2.2 | (with_reducible refine Kd.C_alloc ?_ _) | (with_reducible refine Kd.C_drewN ?_ _) | (with_reducible refine Kd.C_drew ?_))); (case side2 => exact (Kd.R_reads' HO443.out).2.1); (case side3 => repeat (first | exact (Kd.R_reads' HO445.out).2.2 | (with_reducible refine Kd.C_alloc ?_ _) | (with_reducible refine Kd.C_drewN ?_ _) | (with_reducible refine Kd.C_drew ?_))); (case side4 => exact (Kd.R_reads' HO445.out).2.1); rintro e w24 ⟨v448, rfl, ho0, hb⟩; refine ⟨_, rfl, ?_⟩; have n0_ := Aside0.mk (Kd.R_elder' (zR8 HO423.out) (Kd.R_base ho0) hb); have n1_ := Aside0.mk (Kd.R_elder' (zR8 HO427.out) (Kd.R_base ho0) hb); have n2_ := Aside0.mk (Kd.R_elder' (zR8 HO434.out) (Kd.R_base ho0) hb); have n3_ := Aside0.mk (Kd.R_elder' (zR8 HO438.out) (Kd.R_base ho0) hb); have n4_ := Aside0.mk (Kd.R_elder' (zR8 HO443.out) (Kd.R_base ho0) hb); have n5_ := Aside0.mk (Kd.R_elder' (zR8 HO445.out) (Kd.R_base ho0) hb); have n6_ := Aside0.mk (Kd.R_lower (Kd.R_new' (Kd.R_new' (Kd.R_new' (Kd.R_new' (Kd.R_new' (Kd.R_new' ho0 (Kd.R_lt (zR8 HO423.out))) (Kd.R_lt (zR8 HO427.out))) (Kd.R_lt (zR8 HO434.out))) (Kd.R_lt (zR8 HO438.out))) (Kd.R_lt (zR8 HO443.out))) (Kd.R_lt (zR8 HO445.out))) (below_size (zB8_0))); have n7_ := Aside0.mk (below_step (zB8_0) hb); clear HO423; clear HO427; clear HO434; clear HO438; clear HO443; clear HO445; clear HB; have HO423 := n0_; have HO427 := n1_; have HO434 := n2_; have HO438 := n3_; have HO443 := n4_; have HO445 := n5_; have HO449 := n6_; have HB := n7_; clear n0_ n1_ n2_ n3_ n4_ n5_ n6_ n7_; (try clear hb); (try clear hb2); (try clear hk); (try clear hi); (try clear ho0)) | ((with_reducible refine gate_callee (f := 50) rfl ?_); refine goesL_ (some 84) rfl rfl Try.func50 (by kernel_rfl) rfl #[.slice Ao22 t439.length co22, .int .i64 t440, .slice Ao23 t441.length co23] rfl zT8 ?_; (with_reducible refine (spec_Place.calls k _ _ t439 t440 _ _ t441 t450 t451 _ ?side1 ?side2 ?side3 ?side4 A12.out).mono ?_); (case side1 => repeat (first | exact (Kd.R_reads' HO443.out).2.2 | (with_reducible refine Kd.C_alloc ?_ _) | (with_reducible refine Kd.C_drewN ?_ _) | (with_reducible refine Kd.C_drew ?_))); (case side2 => exact (Kd.R_reads' HO443.out).2.1); (case side3 => repeat (first | exact (Kd.R_reads' HO445.out).2.2 | (with_reducible refine Kd.C_alloc ?_ _) | (with_reducible refine Kd.C_drewN ?_ _) | (with_reducible refine Kd.C_drew ?_))); (case side4 => exact (Kd.R_reads' HO445.out).2.1); rintro e w25 ⟨v452, rfl, ho0, hb⟩; refine ⟨_, rfl, ?_⟩; have n0_ := Aside0.mk (Kd.R_elder' (zR8 HO423.out) (Kd.R_base ho0) hb); have n1_ := Aside0.mk (Kd.R_elder' (zR8 HO427.out) (Kd.R_base ho0) hb); have n2_ := Aside0.mk (Kd.R_elder' (zR8 HO434.out) (Kd.R_base ho0) hb); have n3_ := Aside0.mk (Kd.R_elder' (zR8 HO438.out) (Kd.R_base ho0) hb); have n4_ := Aside0.mk (Kd.R_elder' (zR8 HO443.out) (Kd.R_base ho0) hb); have n5_ := Aside0.mk (Kd.R_elder' (zR8 HO445.out) (Kd.R_base ho0) hb); have n6_ := Aside0.mk (Kd.R_elder' (zR8 HO449.out) (Kd.R_base ho0) hb); have n7_ := Aside0.mk (Kd.R_lower (Kd.R_new' (Kd.R_new' (Kd.R_new' (Kd.R_new' (Kd.R_new' (Kd.R_new' (Kd.R_new' ho0 (Kd.R_lt (zR8 HO423.out))) (Kd.R_lt (zR8 HO427.out))) (Kd.R_lt (zR8 HO434.out))) (Kd.R_lt (zR8 HO438.out))) (Kd.R_lt (zR8 HO443.out))) (Kd.R_lt (zR8 HO445.out))) (Kd.R_lt (zR8 HO449.out))) (below_size (zB8_0))); have n8_ := Aside0.mk (below_step (zB8_0) hb); clear HO423; clear HO427; clear HO434; clear HO438; clear HO443; clear HO445; clear HO449; clear HB; have HO423 := n0_; have HO427 := n1_; have HO434 := n2_; have HO438 := n3_; have HO443 := n4_; have HO445 := n5_; have HO449 := n6_; have HO453 := n7_; have HB := n8_; clear n0_ n1_ n2_ n3_ n4_ n5_ n6_ n7_ n8_; (try clear hb); (try clear hb2); (try clear hk); (try clear hi); (try clear ho0)) | ((with_reducible refine gate_callee (f := 51) rfl ?_); refine goesL_ (some 88) rfl rfl Try.func51 (by kernel_rfl) rfl #[.slice A0 l0.length c0] rfl zT8 ?_; (with_reducible refine (spec_DrawAllHalt.calls k _ _ l0 t454 _ ?side1 ?side2 A13.out).mono ?_); (case side1 => exact zC8 (Kd.C_below HR0.out HB.out)); (case side2 => exact HC0.out); rintro e w26 ⟨v455, rfl, ho0, hb⟩; refine ⟨_, rfl, ?_⟩; have n0_ := Aside0.mk (Kd.R_below (zR8 HO423.out) hb); have n1_ := Aside0.mk (Kd.R_below (zR8 HO427.out) hb); have n2_ := Aside0.mk (Kd.R_below (zR8 HO434.out) hb); have n3_ := Aside0.mk (Kd.R_below (zR8 HO438.out) hb); have n4_ := Aside0.mk (Kd.R_below (zR8 HO443.out) hb); have n5_ := Aside0.mk (Kd.R_below (zR8 HO445.out) hb); have n6_ := Aside0.mk (Kd.R_below (zR8 HO449.out) hb); have n7_ := Aside0.mk (Kd.R_below (zR8 HO453.out) hb); have n8_ := Aside0.mk (Kd.S_lower (Kd.S_new' (Kd.S_new' (Kd.S_new' (Kd.S_new' (Kd.S_new' (Kd.S_new' (Kd.S_new' (Kd.S_new' ho0 (Kd.R_lt (zR8 HO423.out))) (Kd.R_lt (zR8 HO427.out))) (Kd.R_lt (zR8 HO434.out))) (Kd.R_lt (zR8 HO438.out))) (Kd.R_lt (zR8 HO443.out))) (Kd.R_lt (zR8 HO445.out))) (Kd.R_lt (zR8 HO449.out))) (Kd.R_lt (zR8 HO453.out))) (below_size (zB8_0))); have n9_ := Aside0.mk (below_step (zB8_0) hb); clear HO423; clear HO427; clear HO434; clear HO438; clear HO443; clear HO445; clear HO449; clear HO453; clear HB; have HO423 := n0_; have HO427 := n1_; have HO434 := n2_; have HO438 := n3_; have HO443 := n4_; have HO445 := n5_; have HO449 := n6_; have HO453 := n7_; have HO456 := n8_; have HB := n9_; clear n0_ n1_ n2_ n3_ n4_ n5_ n6_ n7_ n8_ n9_; (try clear hb); (try clear hb2); (try clear hk); (try clear hi); (try clear ho0)))
  (try simp only [Act.put, List.setIfInBounds_toArray, List.set_cons_zero, List.set_cons_succ])
  go_cut [126] (fun v126 wc => ∃ (kq : Nat) (x126_13 : Bool), v126 = .bool x126_13 ∧ Aside0 (laws_FnPlaced.j0 kq t439 t440 t441 t446 t447 x126_13 = some r) ∧ Aside0 (kq ≤ k) ∧ Aside0 (Kd.R (Kd.int .i64) 3 wc w.heap.size (fun k_ => some k_ ≠ ((.slice Ao23 t441.length co23) : Value).ownBlock ∧ some k_ ≠ (v448 : Value).ownBlock) (.slice Ao22 t439.length co22) t439) ∧ Aside0 (Kd.R (Kd.int .i64) 3 wc w.heap.size (fun k_ => some k_ ≠ ((.slice Ao22 t439.length co22) : Value).ownBlock ∧ some k_ ≠ (v448 : Value).ownBlock) (.slice Ao23 t441.length co23) t441) ∧ Aside0 (Kd.R (Kd.int .i64) 3 wc w.heap.size (fun k_ => some k_ ≠ ((.slice Ao22 t439.length co22) : Value).ownBlock ∧ some k_ ≠ ((.slice Ao23 t441.length co23) : Value).ownBlock) v448 t446) ∧ Aside0 (Below w.heap.size w wc))
  case first =>
    have H := HC14.out
    clear HC14
    by_cases c27 : (t421 != t425) = true
    · rw [if_pos c27] at H
      have c27b0 : (t421 != t425) = true := c27
      (try (have c27b1 : decide (t421 = t425) = false := by simpa using c27))
      (try (have c27b2 : (t421 == t425) = false := by simpa using c27))
      (try (have c27b3 : ¬ (t421 = t425) := by simpa using c27))
      clear c27
      (first | rw [c27b0] | (simp only [i64_w, i32_w]; rw [c27b0]) | skip)
      have H' := Aside0.mk H
      clear H
      go_wp2
      go_meet
      case rel => exact ⟨_, (true), (by first | rfl | (simp; done) | (simp [*]; done)), H', ⟨by first | omega | exact Nat.le_refl _⟩, ⟨by (with_reducible repeat (first | apply Kd.R_alloc | apply Kd.R_drewN | apply Kd.R_drew)); exact Kd.R_mono HO443.out (fun _ hk => ⟨hk.1.1.1.1.1.1, hk.1.2⟩)⟩, ⟨by (with_reducible repeat (first | apply Kd.R_alloc | apply Kd.R_drewN | apply Kd.R_drew)); exact Kd.R_mono HO445.out (fun _ hk => ⟨hk.1.1.1.1.1.1, hk.1.2⟩)⟩, ⟨by (with_reducible repeat (first | apply Kd.R_alloc | apply Kd.R_drewN | apply Kd.R_drew)); exact Kd.R_mono HO449.out (fun _ hk => ⟨hk.1.1.2, hk.1.2⟩)⟩, ⟨zB8_0⟩⟩
    rw [if_neg c27] at H
    have c27b0 : (t421 != t425) = false := by simpa using c27
    (try (have c27b1 : decide (t421 = t425) = true := by simpa using c27))
    (try (have c27b2 : (t421 == t425) = true := by simpa using c27))
    clear c27
    (first | rw [c27b0] | (simp only [i64_w, i32_w]; rw [c27b0]) | skip)
    replace H := Option.bind_eq_some_iff.mp H
    obtain ⟨t457, A280, H⟩ := H
    replace H : (if t457 = true then (if (t432 != t436) = true then (laws_FnPlaced.j0 k t439 t440 t441 t446 t447 true) else ((laws_sameInts.f k t431 t435).bind fun t458 => (if t458 = true then (if (t447 != t451) = true then (laws_FnPlaced.j0 k t439 t440 t441 t446 t447 true) else ((laws_sameInts.f k t446 t450).bind fun t459 => (if t459 = true then ((impl_AllHalt.f k t454).bind fun t460 => ((spec_AllHalt.f k t454).bind fun t461 => (laws_FnPlaced.j0 k t439 t440 t441 t446 t447 (t460 != t461)))) else (laws_FnPlaced.j0 k t439 t440 t441 t446 t447 true)))) else (laws_FnPlaced.j0 k t439 t440 t441 t446 t447 true)))) else (laws_FnPlaced.j0 k t439 t440 t441 t446 t447 true)) = some r := H
    have A28 := Aside0.mk A280
    clear A280
    by_cases c29 : t457 = true
    rotate_left
    · replace c29 := Bool.eq_false_iff.mpr c29
      subst c29
      have H1 : (laws_FnPlaced.j0 k t439 t440 t441 t446 t447 true) = some r := by rw [if_neg (show ¬ (false = true) by decide)] at H; exact H
      clear H
      have H := H1
      clear H1
      have H' := Aside0.mk H
      clear H
      obtain ⟨Ao62, co62, eo62⟩ := Kd.R_slice HO423.out
      subst eo62
      obtain ⟨Ao63, co63, eo63⟩ := Kd.R_slice HO427.out
      subst eo63
      go_wp2_with (first | (go_at_call 36; (with_reducible refine (laws_sameInts.calls k _ _ t420 _ _ t424 false _ ?side1 ?side2 ?side3 ?side4 A28.out).mono ?_); (case side1 => repeat (first | exact (Kd.R_reads' HO423.out).2.2 | (with_reducible refine Kd.C_alloc ?_ _) | (with_reducible refine Kd.C_drewN ?_ _) | (with_reducible refine Kd.C_drew ?_))); (case side2 => exact (Kd.R_reads' HO423.out).2.1); (case side3 => repeat (first | exact (Kd.R_reads' HO427.out).2.2 | (with_reducible refine Kd.C_alloc ?_ _) | (with_reducible refine Kd.C_drewN ?_ _) | (with_reducible refine Kd.C_drew ?_))); (case side4 => exact (Kd.R_reads' HO427.out).2.1); rintro e w' ⟨rfl, ⟨nd, rfl⟩⟩))
      go_meet
      case rel => exact ⟨_, (true), (by first | rfl | (simp; done) | (simp [*]; done)), H', ⟨by first | omega | exact Nat.le_refl _⟩, ⟨by (with_reducible repeat (first | apply Kd.R_alloc | apply Kd.R_drewN | apply Kd.R_drew)); exact Kd.R_mono HO443.out (fun _ hk => ⟨hk.1.1.1.1.1.1, hk.1.2⟩)⟩, ⟨by (with_reducible repeat (first | apply Kd.R_alloc | apply Kd.R_drewN | apply Kd.R_drew)); exact Kd.R_mono HO445.out (fun _ hk => ⟨hk.1.1.1.1.1.1, hk.1.2⟩)⟩, ⟨by (with_reducible repeat (first | apply Kd.R_alloc | apply Kd.R_drewN | apply Kd.R_drew)); exact Kd.R_mono HO449.out (fun _ hk => ⟨hk.1.1.2, hk.1.2⟩)⟩, ⟨zB8_0⟩⟩
    subst c29
    have H1 : (if (t432 != t436) = true then (laws_FnPlaced.j0 k t439 t440 t441 t446 t447 true) else ((laws_sameInts.f k t431 t435).bind fun t458 => (if t458 = true then (if (t447 != t451) = true then (laws_FnPlaced.j0 k t439 t440 t441 t446 t447 true) else ((laws_sameInts.f k t446 t450).bind fun t459 => (if t459 = true then ((impl_AllHalt.f k t454).bind fun t460 => ((spec_AllHalt.f k t454).bind fun t461 => (laws_FnPlaced.j0 k t439 t440 t441 t446 t447 (t460 != t461)))) else (laws_FnPlaced.j0 k t439 t440 t441 t446 t447 true)))) else (laws_FnPlaced.j0 k t439 t440 t441 t446 t447 true)))) = some r := by rw [if_pos rfl] at H; exact H
    clear H
    have H := H1
    clear H1
    by_cases c30 : (t432 != t436) = true
    · rw [if_pos c30] at H
      have c30b0 : (t432 != t436) = true := c30
      (try (have c30b1 : decide (t432 = t436) = false := by simpa using c30))
      (try (have c30b2 : (t432 == t436) = false := by simpa using c30))
      (try (have c30b3 : ¬ (t432 = t436) := by simpa using c30))
      clear c30
      have H' := Aside0.mk H
      clear H
      obtain ⟨Ao31, co31, eo31⟩ := Kd.R_slice HO423.out
      subst eo31
      obtain ⟨Ao32, co32, eo32⟩ := Kd.R_slice HO427.out
      subst eo32
      go_wp2_with (first | (go_at_call 36; (with_reducible refine (laws_sameInts.calls k _ _ t420 _ _ t424 true _ ?side1 ?side2 ?side3 ?side4 A28.out).mono ?_); (case side1 => repeat (first | exact (Kd.R_reads' HO423.out).2.2 | (with_reducible refine Kd.C_alloc ?_ _) | (with_reducible refine Kd.C_drewN ?_ _) | (with_reducible refine Kd.C_drew ?_))); (case side2 => exact (Kd.R_reads' HO423.out).2.1); (case side3 => repeat (first | exact (Kd.R_reads' HO427.out).2.2 | (with_reducible refine Kd.C_alloc ?_ _) | (with_reducible refine Kd.C_drewN ?_ _) | (with_reducible refine Kd.C_drew ?_))); (case side4 => exact (Kd.R_reads' HO427.out).2.1); rintro e w' ⟨rfl, ⟨nd, rfl⟩⟩))
      go_meet
      case rel => exact ⟨_, (true), (by first | rfl | (simp; done) | (simp [*]; done)), H', ⟨by first | omega | exact Nat.le_refl _⟩, ⟨by (with_reducible repeat (first | apply Kd.R_alloc | apply Kd.R_drewN | apply Kd.R_drew)); exact Kd.R_mono HO443.out (fun _ hk => ⟨hk.1.1.1.1.1.1, hk.1.2⟩)⟩, ⟨by (with_reducible repeat (first | apply Kd.R_alloc | apply Kd.R_drewN | apply Kd.R_drew)); exact Kd.R_mono HO445.out (fun _ hk => ⟨hk.1.1.1.1.1.1, hk.1.2⟩)⟩, ⟨by (with_reducible repeat (first | apply Kd.R_alloc | apply Kd.R_drewN | apply Kd.R_drew)); exact Kd.R_mono HO449.out (fun _ hk => ⟨hk.1.1.2, hk.1.2⟩)⟩, ⟨zB8_0⟩⟩
    rw [if_neg c30] at H
    have c30b0 : (t432 != t436) = false := by simpa using c30
    (try (have c30b1 : decide (t432 = t436) = true := by simpa using c30))
    (try (have c30b2 : (t432 == t436) = true := by simpa using c30))
    clear c30
    replace H := Option.bind_eq_some_iff.mp H
    obtain ⟨t458, A330, H⟩ := H
    replace H : (if t458 = true then (if (t447 != t451) = true then (laws_FnPlaced.j0 k t439 t440 t441 t446 t447 true) else ((laws_sameInts.f k t446 t450).bind fun t459 => (if t459 = true then ((impl_AllHalt.f k t454).bind fun t460 => ((spec_AllHalt.f k t454).bind fun t461 => (laws_FnPlaced.j0 k t439 t440 t441 t446 t447 (t460 != t461)))) else (laws_FnPlaced.j0 k t439 t440 t441 t446 t447 true)))) else (laws_FnPlaced.j0 k t439 t440 t441 t446 t447 true)) = some r := H
    have A33 := Aside0.mk A330
    clear A330
    by_cases c34 : t458 = true
    rotate_left
    · replace c34 := Bool.eq_false_iff.mpr c34
      subst c34
      have H1 : (laws_FnPlaced.j0 k t439 t440 t441 t446 t447 true) = some r := by rw [if_neg (show ¬ (false = true) by decide)] at H; exact H
      clear H
      have H := H1
      clear H1
      have H' := Aside0.mk H
      clear H
      obtain ⟨Ao58, co58, eo58⟩ := Kd.R_slice HO423.out
      subst eo58
      obtain ⟨Ao59, co59, eo59⟩ := Kd.R_slice HO427.out
      subst eo59
      go_wp2_with (first | (go_at_call 36; (with_reducible refine (laws_sameInts.calls k _ _ t420 _ _ t424 true _ ?side1 ?side2 ?side3 ?side4 A28.out).mono ?_); (case side1 => repeat (first | exact (Kd.R_reads' HO423.out).2.2 | (with_reducible refine Kd.C_alloc ?_ _) | (with_reducible refine Kd.C_drewN ?_ _) | (with_reducible refine Kd.C_drew ?_))); (case side2 => exact (Kd.R_reads' HO423.out).2.1); (case side3 => repeat (first | exact (Kd.R_reads' HO427.out).2.2 | (with_reducible refine Kd.C_alloc ?_ _) | (with_reducible refine Kd.C_drewN ?_ _) | (with_reducible refine Kd.C_drew ?_))); (case side4 => exact (Kd.R_reads' HO427.out).2.1); rintro e w' ⟨rfl, ⟨nd, rfl⟩⟩; obtain ⟨Ao60, co60, eo60⟩ := Kd.R_slice HO434.out; subst eo60; obtain ⟨Ao61, co61, eo61⟩ := Kd.R_slice HO438.out; subst eo61) | (go_at_call 36; (with_reducible refine (laws_sameInts.calls k _ _ t431 _ _ t435 false _ ?side1 ?side2 ?side3 ?side4 A33.out).mono ?_); (case side1 => repeat (first | exact (Kd.R_reads' HO434.out).2.2 | (with_reducible refine Kd.C_alloc ?_ _) | (with_reducible refine Kd.C_drewN ?_ _) | (with_reducible refine Kd.C_drew ?_))); (case side2 => exact (Kd.R_reads' HO434.out).2.1); (case side3 => repeat (first | exact (Kd.R_reads' HO438.out).2.2 | (with_reducible refine Kd.C_alloc ?_ _) | (with_reducible refine Kd.C_drewN ?_ _) | (with_reducible refine Kd.C_drew ?_))); (case side4 => exact (Kd.R_reads' HO438.out).2.1); rintro e w' ⟨rfl, ⟨nd, rfl⟩⟩))
      go_meet
      case rel => exact ⟨_, (true), (by first | rfl | (simp; done) | (simp [*]; done)), H', ⟨by first | omega | exact Nat.le_refl _⟩, ⟨by (with_reducible repeat (first | apply Kd.R_alloc | apply Kd.R_drewN | apply Kd.R_drew)); exact Kd.R_mono HO443.out (fun _ hk => ⟨hk.1.1.1.1.1.1, hk.1.2⟩)⟩, ⟨by (with_reducible repeat (first | apply Kd.R_alloc | apply Kd.R_drewN | apply Kd.R_drew)); exact Kd.R_mono HO445.out (fun _ hk => ⟨hk.1.1.1.1.1.1, hk.1.2⟩)⟩, ⟨by (with_reducible repeat (first | apply Kd.R_alloc | apply Kd.R_drewN | apply Kd.R_drew)); exact Kd.R_mono HO449.out (fun _ hk => ⟨hk.1.1.2, hk.1.2⟩)⟩, ⟨zB8_0⟩⟩
    subst c34
    have H1 : (if (t447 != t451) = true then (laws_FnPlaced.j0 k t439 t440 t441 t446 t447 true) else ((laws_sameInts.f k t446 t450).bind fun t459 => (if t459 = true then ((impl_AllHalt.f k t454).bind fun t460 => ((spec_AllHalt.f k t454).bind fun t461 => (laws_FnPlaced.j0 k t439 t440 t441 t446 t447 (t460 != t461)))) else (laws_FnPlaced.j0 k t439 t440 t441 t446 t447 true)))) = some r := by rw [if_pos rfl] at H; exact H
    clear H
    have H := H1
    clear H1
    by_cases c35 : (t447 != t451) = true
    · rw [if_pos c35] at H
      have c35b0 : (t447 != t451) = true := c35
      (try (have c35b1 : decide (t447 = t451) = false := by simpa using c35))
      (try (have c35b2 : (t447 == t451) = false := by simpa using c35))
      (try (have c35b3 : ¬ (t447 = t451) := by simpa using c35))
      clear c35
      have H' := Aside0.mk H
      clear H
      obtain ⟨Ao36, co36, eo36⟩ := Kd.R_slice HO423.out
      subst eo36
      obtain ⟨Ao37, co37, eo37⟩ := Kd.R_slice HO427.out
      subst eo37
      go_wp2_with (first | (go_at_call 36; (with_reducible refine (laws_sameInts.calls k _ _ t420 _ _ t424 true _ ?side1 ?side2 ?side3 ?side4 A28.out).mono ?_); (case side1 => repeat (first | exact (Kd.R_reads' HO423.out).2.2 | (with_reducible refine Kd.C_alloc ?_ _) | (with_reducible refine Kd.C_drewN ?_ _) | (with_reducible refine Kd.C_drew ?_))); (case side2 => exact (Kd.R_reads' HO423.out).2.1); (case side3 => repeat (first | exact (Kd.R_reads' HO427.out).2.2 | (with_reducible refine Kd.C_alloc ?_ _) | (with_reducible refine Kd.C_drewN ?_ _) | (with_reducible refine Kd.C_drew ?_))); (case side4 => exact (Kd.R_reads' HO427.out).2.1); rintro e w' ⟨rfl, ⟨nd, rfl⟩⟩; obtain ⟨Ao38, co38, eo38⟩ := Kd.R_slice HO434.out; subst eo38; obtain ⟨Ao39, co39, eo39⟩ := Kd.R_slice HO438.out; subst eo39) | (go_at_call 36; (with_reducible refine (laws_sameInts.calls k _ _ t431 _ _ t435 true _ ?side1 ?side2 ?side3 ?side4 A33.out).mono ?_); (case side1 => repeat (first | exact (Kd.R_reads' HO434.out).2.2 | (with_reducible refine Kd.C_alloc ?_ _) | (with_reducible refine Kd.C_drewN ?_ _) | (with_reducible refine Kd.C_drew ?_))); (case side2 => exact (Kd.R_reads' HO434.out).2.1); (case side3 => repeat (first | exact (Kd.R_reads' HO438.out).2.2 | (with_reducible refine Kd.C_alloc ?_ _) | (with_reducible refine Kd.C_drewN ?_ _) | (with_reducible refine Kd.C_drew ?_))); (case side4 => exact (Kd.R_reads' HO438.out).2.1); rintro e w' ⟨rfl, ⟨nd, rfl⟩⟩))
      go_meet
      case rel => exact ⟨_, (true), (by first | rfl | (simp; done) | (simp [*]; done)), H', ⟨by first | omega | exact Nat.le_refl _⟩, ⟨by (with_reducible repeat (first | apply Kd.R_alloc | apply Kd.R_drewN | apply Kd.R_drew)); exact Kd.R_mono HO443.out (fun _ hk => ⟨hk.1.1.1.1.1.1, hk.1.2⟩)⟩, ⟨by (with_reducible repeat (first | apply Kd.R_alloc | apply Kd.R_drewN | apply Kd.R_drew)); exact Kd.R_mono HO445.out (fun _ hk => ⟨hk.1.1.1.1.1.1, hk.1.2⟩)⟩, ⟨by (with_reducible repeat (first | apply Kd.R_alloc | apply Kd.R_drewN | apply Kd.R_drew)); exact Kd.R_mono HO449.out (fun _ hk => ⟨hk.1.1.2, hk.1.2⟩)⟩, ⟨zB8_0⟩⟩
    rw [if_neg c35] at H
    have c35b0 : (t447 != t451) = false := by simpa using c35
    (try (have c35b1 : decide (t447 = t451) = true := by simpa using c35))
    (try (have c35b2 : (t447 == t451) = true := by simpa using c35))
    clear c35
    replace H := Option.bind_eq_some_iff.mp H
    obtain ⟨t459, A400, H⟩ := H
    replace H : (if t459 = true then ((impl_AllHalt.f k t454).bind fun t460 => ((spec_AllHalt.f k t454).bind fun t461 => (laws_FnPlaced.j0 k t439 t440 t441 t446 t447 (t460 != t461)))) else (laws_FnPlaced.j0 k t439 t440 t441 t446 t447 true)) = some r := H
    have A40 := Aside0.mk A400
    clear A400
    by_cases c41 : t459 = true
    rotate_left
    · replace c41 := Bool.eq_false_iff.mpr c41
      subst c41
      have H1 : (laws_FnPlaced.j0 k t439 t440 t441 t446 t447 true) = some r := by rw [if_neg (show ¬ (false = true) by decide)] at H; exact H
      clear H
      have H := H1
      clear H1
      have H' := Aside0.mk H
      clear H
      obtain ⟨Ao52, co52, eo52⟩ := Kd.R_slice HO423.out
      subst eo52
      obtain ⟨Ao53, co53, eo53⟩ := Kd.R_slice HO427.out
      subst eo53
      go_wp2_with (first | (go_at_call 36; (with_reducible refine (laws_sameInts.calls k _ _ t420 _ _ t424 true _ ?side1 ?side2 ?side3 ?side4 A28.out).mono ?_); (case side1 => repeat (first | exact (Kd.R_reads' HO423.out).2.2 | (with_reducible refine Kd.C_alloc ?_ _) | (with_reducible refine Kd.C_drewN ?_ _) | (with_reducible refine Kd.C_drew ?_))); (case side2 => exact (Kd.R_reads' HO423.out).2.1); (case side3 => repeat (first | exact (Kd.R_reads' HO427.out).2.2 | (with_reducible refine Kd.C_alloc ?_ _) | (with_reducible refine Kd.C_drewN ?_ _) | (with_reducible refine Kd.C_drew ?_))); (case side4 => exact (Kd.R_reads' HO427.out).2.1); rintro e w' ⟨rfl, ⟨nd, rfl⟩⟩; obtain ⟨Ao54, co54, eo54⟩ := Kd.R_slice HO434.out; subst eo54; obtain ⟨Ao55, co55, eo55⟩ := Kd.R_slice HO438.out; subst eo55) | (go_at_call 36; (with_reducible refine (laws_sameInts.calls k _ _ t431 _ _ t435 true _ ?side1 ?side2 ?side3 ?side4 A33.out).mono ?_); (case side1 => repeat (first | exact (Kd.R_reads' HO434.out).2.2 | (with_reducible refine Kd.C_alloc ?_ _) | (with_reducible refine Kd.C_drewN ?_ _) | (with_reducible refine Kd.C_drew ?_))); (case side2 => exact (Kd.R_reads' HO434.out).2.1); (case side3 => repeat (first | exact (Kd.R_reads' HO438.out).2.2 | (with_reducible refine Kd.C_alloc ?_ _) | (with_reducible refine Kd.C_drewN ?_ _) | (with_reducible refine Kd.C_drew ?_))); (case side4 => exact (Kd.R_reads' HO438.out).2.1); rintro e w' ⟨rfl, ⟨nd, rfl⟩⟩; obtain ⟨Ao56, co56, eo56⟩ := Kd.R_slice HO449.out; subst eo56; obtain ⟨Ao57, co57, eo57⟩ := Kd.R_slice HO453.out; subst eo57) | (go_at_call 36; (with_reducible refine (laws_sameInts.calls k _ _ t446 _ _ t450 false _ ?side1 ?side2 ?side3 ?side4 A40.out).mono ?_); (case side1 => repeat (first | exact (Kd.R_reads' HO449.out).2.2 | (with_reducible refine Kd.C_alloc ?_ _) | (with_reducible refine Kd.C_drewN ?_ _) | (with_reducible refine Kd.C_drew ?_))); (case side2 => exact (Kd.R_reads' HO449.out).2.1); (case side3 => repeat (first | exact (Kd.R_reads' HO453.out).2.2 | (with_reducible refine Kd.C_alloc ?_ _) | (with_reducible refine Kd.C_drewN ?_ _) | (with_reducible refine Kd.C_drew ?_))); (case side4 => exact (Kd.R_reads' HO453.out).2.1); rintro e w' ⟨rfl, ⟨nd, rfl⟩⟩))
      go_meet
      case rel => exact ⟨_, (true), (by first | rfl | (simp; done) | (simp [*]; done)), H', ⟨by first | omega | exact Nat.le_refl _⟩, ⟨by (with_reducible repeat (first | apply Kd.R_alloc | apply Kd.R_drewN | apply Kd.R_drew)); exact Kd.R_mono HO443.out (fun _ hk => ⟨hk.1.1.1.1.1.1, hk.1.2⟩)⟩, ⟨by (with_reducible repeat (first | apply Kd.R_alloc | apply Kd.R_drewN | apply Kd.R_drew)); exact Kd.R_mono HO445.out (fun _ hk => ⟨hk.1.1.1.1.1.1, hk.1.2⟩)⟩, ⟨by (with_reducible repeat (first | apply Kd.R_alloc | apply Kd.R_drewN | apply Kd.R_drew)); exact Kd.R_mono HO449.out (fun _ hk => ⟨hk.1.1.2, hk.1.2⟩)⟩, ⟨zB8_0⟩⟩
    subst c41
    have H1 : ((impl_AllHalt.f k t454).bind fun t460 => ((spec_AllHalt.f k t454).bind fun t461 => (laws_FnPlaced.j0 k t439 t440 t441 t446 t447 (t460 != t461)))) = some r := by rw [if_pos rfl] at H; exact H
    clear H
    have H := H1
    clear H1
    replace H := Option.bind_eq_some_iff.mp H
    obtain ⟨t460, A420, H⟩ := H
    replace H : ((spec_AllHalt.f k t454).bind fun t461 => (laws_FnPlaced.j0 k t439 t440 t441 t446 t447 (t460 != t461))) = some r := H
    have A42 := Aside0.mk A420
    clear A420
    replace H := Option.bind_eq_some_iff.mp H
    obtain ⟨t461, A430, H⟩ := H
    replace H : (laws_FnPlaced.j0 k t439 t440 t441 t446 t447 (t460 != t461)) = some r := H
    have A43 := Aside0.mk A430
    clear A430
    have H' := Aside0.mk H
    clear H
    obtain ⟨Ao44, co44, eo44⟩ := Kd.R_slice HO423.out
    subst eo44
    obtain ⟨Ao45, co45, eo45⟩ := Kd.R_slice HO427.out
    subst eo45
    go_wp2_with (first | (go_at_call 36; (with_reducible refine (laws_sameInts.calls k _ _ t420 _ _ t424 true _ ?side1 ?side2 ?side3 ?side4 A28.out).mono ?_); (case side1 => repeat (first | exact (Kd.R_reads' HO423.out).2.2 | (with_reducible refine Kd.C_alloc ?_ _) | (with_reducible refine Kd.C_drewN ?_ _) | (with_reducible refine Kd.C_drew ?_))); (case side2 => exact (Kd.R_reads' HO423.out).2.1); (case side3 => repeat (first | exact (Kd.R_reads' HO427.out).2.2 | (with_reducible refine Kd.C_alloc ?_ _) | (with_reducible refine Kd.C_drewN ?_ _) | (with_reducible refine Kd.C_drew ?_))); (case side4 => exact (Kd.R_reads' HO427.out).2.1); rintro e w' ⟨rfl, ⟨nd, rfl⟩⟩; obtain ⟨Ao46, co46, eo46⟩ := Kd.R_slice HO434.out; subst eo46; obtain ⟨Ao47, co47, eo47⟩ := Kd.R_slice HO438.out; subst eo47) | (go_at_call 36; (with_reducible refine (laws_sameInts.calls k _ _ t431 _ _ t435 true _ ?side1 ?side2 ?side3 ?side4 A33.out).mono ?_); (case side1 => repeat (first | exact (Kd.R_reads' HO434.out).2.2 | (with_reducible refine Kd.C_alloc ?_ _) | (with_reducible refine Kd.C_drewN ?_ _) | (with_reducible refine Kd.C_drew ?_))); (case side2 => exact (Kd.R_reads' HO434.out).2.1); (case side3 => repeat (first | exact (Kd.R_reads' HO438.out).2.2 | (with_reducible refine Kd.C_alloc ?_ _) | (with_reducible refine Kd.C_drewN ?_ _) | (with_reducible refine Kd.C_drew ?_))); (case side4 => exact (Kd.R_reads' HO438.out).2.1); rintro e w' ⟨rfl, ⟨nd, rfl⟩⟩; obtain ⟨Ao48, co48, eo48⟩ := Kd.R_slice HO449.out; subst eo48; obtain ⟨Ao49, co49, eo49⟩ := Kd.R_slice HO453.out; subst eo49) | (go_at_call 36; (with_reducible refine (laws_sameInts.calls k _ _ t446 _ _ t450 true _ ?side1 ?side2 ?side3 ?side4 A40.out).mono ?_); (case side1 => repeat (first | exact (Kd.R_reads' HO449.out).2.2 | (with_reducible refine Kd.C_alloc ?_ _) | (with_reducible refine Kd.C_drewN ?_ _) | (with_reducible refine Kd.C_drew ?_))); (case side2 => exact (Kd.R_reads' HO449.out).2.1); (case side3 => repeat (first | exact (Kd.R_reads' HO453.out).2.2 | (with_reducible refine Kd.C_alloc ?_ _) | (with_reducible refine Kd.C_drewN ?_ _) | (with_reducible refine Kd.C_drew ?_))); (case side4 => exact (Kd.R_reads' HO453.out).2.1); rintro e w' ⟨rfl, ⟨nd, rfl⟩⟩; obtain ⟨Ao50, co50, eo50⟩ := Kd.S_slice HO456.out; subst eo50) | (go_at_call 21; (with_reducible refine (impl_AllHalt.calls k _ _ t454 t460 _ ?side1 ?side2 A42.out).mono ?_); (case side1 => repeat (first | exact (Kd.S_reads' HO456.out).2.2 | (with_reducible refine Kd.C_alloc ?_ _) | (with_reducible refine Kd.C_drewN ?_ _) | (with_reducible refine Kd.C_drew ?_))); (case side2 => exact (Kd.S_reads' HO456.out).2.1); rintro e w51 ⟨rfl, hb⟩; have n0_ := Aside0.mk (Kd.R_below (zR8 HO423.out) hb); have n1_ := Aside0.mk (Kd.R_below (zR8 HO427.out) hb); have n2_ := Aside0.mk (Kd.R_below (zR8 HO434.out) hb); have n3_ := Aside0.mk (Kd.R_below (zR8 HO438.out) hb); have n4_ := Aside0.mk (Kd.R_below (zR8 HO443.out) hb); have n5_ := Aside0.mk (Kd.R_below (zR8 HO445.out) hb); have n6_ := Aside0.mk (Kd.R_below (zR8 HO449.out) hb); have n7_ := Aside0.mk (Kd.R_below (zR8 HO453.out) hb); have n8_ := Aside0.mk (Kd.S_below (by (with_reducible repeat (first | apply Kd.S_alloc | apply Kd.S_drewN | apply Kd.S_drew)); exact HO456.out) hb); have n9_ := Aside0.mk (below_step (zB8_0) hb); clear HO423; clear HO427; clear HO434; clear HO438; clear HO443; clear HO445; clear HO449; clear HO453; clear HO456; clear HB; have HO423 := n0_; have HO427 := n1_; have HO434 := n2_; have HO438 := n3_; have HO443 := n4_; have HO445 := n5_; have HO449 := n6_; have HO453 := n7_; have HO456 := n8_; have HB := n9_; clear n0_ n1_ n2_ n3_ n4_ n5_ n6_ n7_ n8_ n9_; (try clear hb); (try clear hb2); (try clear hk); (try clear hi)) | (go_at_call 52; (with_reducible refine (spec_AllHalt.calls k _ _ t454 t461 _ ?side1 ?side2 A43.out).mono ?_); (case side1 => repeat (first | exact (Kd.S_reads' HO456.out).2.2 | (with_reducible refine Kd.C_alloc ?_ _) | (with_reducible refine Kd.C_drewN ?_ _) | (with_reducible refine Kd.C_drew ?_))); (case side2 => exact (Kd.S_reads' HO456.out).2.1); rintro e w' ⟨rfl, ⟨nd, rfl⟩⟩))
    go_meet
    case rel => exact ⟨_, ((t460 != t461)), (by first | rfl | (simp; done) | (simp [*]; done)), H', ⟨by first | omega | exact Nat.le_refl _⟩, ⟨by (with_reducible repeat (first | apply Kd.R_alloc | apply Kd.R_drewN | apply Kd.R_drew)); exact Kd.R_mono HO443.out (fun _ hk => ⟨hk.1.1.1.1.1.1, hk.1.2⟩)⟩, ⟨by (with_reducible repeat (first | apply Kd.R_alloc | apply Kd.R_drewN | apply Kd.R_drew)); exact Kd.R_mono HO445.out (fun _ hk => ⟨hk.1.1.1.1.1.1, hk.1.2⟩)⟩, ⟨by (with_reducible repeat (first | apply Kd.R_alloc | apply Kd.R_drewN | apply Kd.R_drew)); exact Kd.R_mono HO449.out (fun _ hk => ⟨hk.1.1.2, hk.1.2⟩)⟩, ⟨zB8_0⟩⟩
  case rest =>
    clear HC14
    try clear c1
    try clear c2
    try clear p2
    try clear c3
    try clear c4
    try clear c5
    try clear c10
    try clear c14
    try clear c16
    try clear c17
    try clear c18
    try clear c22
    try clear c23
    try clear c27
    try clear c27b0
    try clear c27b1
    try clear c27b2
    try clear c29
    try clear c30
    try clear c30b0
    try clear c30b1
    try clear c30b2
    try clear c34
    try clear c35
    try clear c35b0
    try clear c35b1
    try clear c35b2
    try clear c41
    try clear c47
    try clear c48
    try clear c49
    try clear c50
    try clear c51
    obtain ⟨kq, x126_13, rfl, HA, HJ13, HO_17, HO_19, HO_20, HB⟩ := hcut
    cases kq with
    | zero => exact absurd HA.out (by simp [laws_FnPlaced.j0])
    | succ kj13 =>
      have H := HA.out
      clear HA
      simp only [laws_FnPlaced.j0] at H
      by_cases c64 : x126_13 = true
      · subst c64
        have H1 : (some false) = some r := by rw [if_pos rfl] at H; exact H
        clear H
        have H := H1
        clear H1
        obtain rfl := Option.some.inj H
        go_wp2
        go_ret
        exact ⟨zE8, zB8_0⟩
      replace c64 := Bool.eq_false_iff.mpr c64
      subst c64
      have H1 : (if t447 = true then (if 0 ≤ t440 then (if t440 ≤ (wrap64 (t440 + (t441.length : Int))) then (if (wrap64 (t440 + (t441.length : Int))) ≤ (t446.length : Int) then ((laws_sameInts.f kj13 ((t446.take ((wrap64 (t440 + (t441.length : Int))) : Int).toNat).drop (t440 : Int).toNat) t441).bind fun t466 => (if t466 = true then (if t440 ≤ (t446.length : Int) then (if t440 ≤ (t439.length : Int) then ((laws_sameInts.f kj13 (t446.take (t440 : Int).toNat) (t439.take (t440 : Int).toNat)).bind fun t475 => (if t475 = true then (if 0 ≤ (wrap64 (t440 + (t441.length : Int))) then (if (wrap64 (t440 + (t441.length : Int))) ≤ (t439.length : Int) then ((laws_sameInts.f kj13 (t446.drop ((wrap64 (t440 + (t441.length : Int))) : Int).toNat) (t439.drop ((wrap64 (t440 + (t441.length : Int))) : Int).toNat)).bind fun t484 => (some t484)) else (none)) else (none)) else (some false))) else (none)) else (none)) else (some false))) else (none)) else (none)) else (none)) else ((laws_sameInts.f kj13 t446 t439).bind fun t485 => (some t485))) = some r := by rw [if_neg (show ¬ (false = true) by decide)] at H; exact H
      clear H
      have H := H1
      clear H1
      by_cases c65 : t447 = true
      rotate_left
      · replace c65 := Bool.eq_false_iff.mpr c65
        subst c65
        have H1 : ((laws_sameInts.f kj13 t446 t439).bind fun t485 => (some t485)) = some r := by rw [if_neg (show ¬ (false = true) by decide)] at H; exact H
        clear H
        have H := H1
        clear H1
        replace H := Option.bind_eq_some_iff.mp H
        obtain ⟨t485, A980, H⟩ := H
        replace H : (some t485) = some r := H
        have A98 := Aside0.mk A980
        clear A980
        obtain rfl := Option.some.inj H
        obtain ⟨Ao99, co99, eo99⟩ := Kd.R_slice HO_20.out
        subst eo99
        go_wp2_with (first | ((with_reducible refine gate_callee (f := 36) rfl ?_); refine goesL_ (some 131) rfl rfl Try.func36 (by kernel_rfl) rfl #[.slice Ao99 t446.length co99, .slice Ao22 t439.length co22] rfl zT8 ?_; (with_reducible refine (laws_sameInts.calls kj13 _ _ t446 _ _ t439 t485 _ ?side1 ?side2 ?side3 ?side4 A98.out).mono ?_); (case side1 => repeat (first | exact (Kd.R_reads' HO_20.out).2.2 | (with_reducible refine Kd.C_alloc ?_ _) | (with_reducible refine Kd.C_drewN ?_ _) | (with_reducible refine Kd.C_drew ?_))); (case side2 => exact (Kd.R_reads' HO_20.out).2.1); (case side3 => repeat (first | exact (Kd.R_reads' HO_17.out).2.2 | (with_reducible refine Kd.C_alloc ?_ _) | (with_reducible refine Kd.C_drewN ?_ _) | (with_reducible refine Kd.C_drew ?_))); (case side4 => exact (Kd.R_reads' HO_17.out).2.1); rintro e w' ⟨rfl, ⟨nd, rfl⟩⟩; refine ⟨_, rfl, ?_⟩))
        go_ret
        exact ⟨zE8, zB8_0⟩
      subst c65
      have H1 : (if 0 ≤ t440 then (if t440 ≤ (wrap64 (t440 + (t441.length : Int))) then (if (wrap64 (t440 + (t441.length : Int))) ≤ (t446.length : Int) then ((laws_sameInts.f kj13 ((t446.take ((wrap64 (t440 + (t441.length : Int))) : Int).toNat).drop (t440 : Int).toNat) t441).bind fun t466 => (if t466 = true then (if t440 ≤ (t446.length : Int) then (if t440 ≤ (t439.length : Int) then ((laws_sameInts.f kj13 (t446.take (t440 : Int).toNat) (t439.take (t440 : Int).toNat)).bind fun t475 => (if t475 = true then (if 0 ≤ (wrap64 (t440 + (t441.length : Int))) then (if (wrap64 (t440 + (t441.length : Int))) ≤ (t439.length : Int) then ((laws_sameInts.f kj13 (t446.drop ((wrap64 (t440 + (t441.length : Int))) : Int).toNat) (t439.drop ((wrap64 (t440 + (t441.length : Int))) : Int).toNat)).bind fun t484 => (some t484)) else (none)) else (none)) else (some false))) else (none)) else (none)) else (some false))) else (none)) else (none)) else (none)) = some r := by rw [if_pos rfl] at H; exact H
      clear H
      have H := H1
      clear H1
      by_cases c66 : 0 ≤ t440
      rotate_left
      · rw [if_neg c66] at H
        exact absurd H (by simp)
      rw [if_pos c66] at H
      have c66b0 := eq_true c66
      have c66b1 : decide (0 ≤ t440) = true := decide_eq_true c66
      clear c66
      by_cases c67 : t440 ≤ (wrap64 (t440 + (t441.length : Int)))
      rotate_left
      · rw [if_neg c67] at H
        exact absurd H (by simp)
      rw [if_pos c67] at H
      have c67b0 := eq_true c67
      have c67b1 : decide (t440 ≤ (wrap64 (t440 + (t441.length : Int)))) = true := decide_eq_true c67
      by_cases c68 : (wrap64 (t440 + (t441.length : Int))) ≤ (t446.length : Int)
      rotate_left
      · rw [if_neg c68] at H
        exact absurd H (by simp)
      rw [if_pos c68] at H
      have c68b0 := eq_true c68
      have c68b1 : decide ((wrap64 (t440 + (t441.length : Int))) ≤ (t446.length : Int)) = true := decide_eq_true c68
      obtain ⟨y462, hy462⟩ : ∃ y_ : List Int, y_ = ((t446.take ((wrap64 (t440 + (t441.length : Int))) : Int).toNat).drop (t440 : Int).toNat) := ⟨_, rfl⟩
      replace H : ((laws_sameInts.f kj13 y462 t441).bind fun t466 => (if t466 = true then (if t440 ≤ (t446.length : Int) then (if t440 ≤ (t439.length : Int) then ((laws_sameInts.f kj13 (t446.take (t440 : Int).toNat) (t439.take (t440 : Int).toNat)).bind fun t475 => (if t475 = true then (if 0 ≤ (wrap64 (t440 + (t441.length : Int))) then (if (wrap64 (t440 + (t441.length : Int))) ≤ (t439.length : Int) then ((laws_sameInts.f kj13 (t446.drop ((wrap64 (t440 + (t441.length : Int))) : Int).toNat) (t439.drop ((wrap64 (t440 + (t441.length : Int))) : Int).toNat)).bind fun t484 => (some t484)) else (none)) else (none)) else (some false))) else (none)) else (none)) else (some false))) = some r := by first | (rw [hy462]; with_reducible exact H) | (have H2_ := (Option.bind_some _ _).symm.trans H; rw [hy462]; with_reducible exact H2_) | (have H2_ := (Option.bind_some _ _).symm.trans H; with_reducible exact H2_) | with_reducible exact H | (rw [hy462]; exact H) | exact H
      have Ny462 := Aside0.mk hy462
      clear hy462
      replace H := Option.bind_eq_some_iff.mp H
      obtain ⟨t466, A690, H⟩ := H
      replace H : (if t466 = true then (if t440 ≤ (t446.length : Int) then (if t440 ≤ (t439.length : Int) then ((laws_sameInts.f kj13 (t446.take (t440 : Int).toNat) (t439.take (t440 : Int).toNat)).bind fun t475 => (if t475 = true then (if 0 ≤ (wrap64 (t440 + (t441.length : Int))) then (if (wrap64 (t440 + (t441.length : Int))) ≤ (t439.length : Int) then ((laws_sameInts.f kj13 (t446.drop ((wrap64 (t440 + (t441.length : Int))) : Int).toNat) (t439.drop ((wrap64 (t440 + (t441.length : Int))) : Int).toNat)).bind fun t484 => (some t484)) else (none)) else (none)) else (some false))) else (none)) else (none)) else (some false)) = some r := H
      have A69 := Aside0.mk A690
      clear A690
      by_cases c70 : t466 = true
      rotate_left
      · replace c70 := Bool.eq_false_iff.mpr c70
        subst c70
        have H1 : (some false) = some r := by rw [if_neg (show ¬ (false = true) by decide)] at H; exact H
        clear H
        have H := H1
        clear H1
        obtain rfl := Option.some.inj H
        try go_wp2
        have n0_ := Aside0.mk (Kd.R_drew HO_17.out)
        have n1_ := Aside0.mk (Kd.R_drew HO_19.out)
        have n2_ := Aside0.mk (Kd.R_drew HO_20.out)
        have n3_ := Aside0.mk (below_drew1 HB.out)
        clear HO_17 HO_19 HO_20 HB
        have HO_17 := n0_
        have HO_19 := n1_
        have HO_20 := n2_
        have HB := n3_
        clear n0_ n1_ n2_ n3_
        obtain ⟨Ao97, co97, eo97⟩ := Kd.R_slice HO_20.out
        (first | subst eo97 | (injection eo97 with f1_ f2_ f3_; have f4_ := f1_.symm; have f5_ := f3_.symm; clear f1_ f2_ f3_; subst f4_; subst f5_))
        have q96 : ((wrap64 (t440 + (t441.length : Int))) : Int) ≤ ((t446.length : Int) : Int) := zA8
        obtain ⟨i096, hi096, _, hsz96, _⟩ := info_parts info3
        have hroom96 : t446.length ≤ co97 := (Kd.R_reads' HO_20.out).2.1
        have hC96 : Kd.C (Kd.int .i64) _ Ao97 t446.length t446 := (Kd.R_reads' HO_20.out).2.2
        have ql96 : (t440 : Int) ≤ ((wrap64 (t440 + (t441.length : Int))) : Int) := zA8
        have q096 : (0 : Int) ≤ (t440 : Int) := zA8
        have hcut96 := cut_mid (P := Try.prog) 25 3 .i64 .i64 Try.underlying25 hi096 1 hsz96 Ao97 t446.length co97 t440 (wrap64 (t440 + (t441.length : Int))) q096 ql96 q96 hroom96
        have hr96 := Kd.C_mid (lo := (t440 : Int).toNat) (hi := ((wrap64 (t440 + (t441.length : Int))) : Int).toNat) (c := co97) hC96 (by omega) (by omega) hroom96
        obtain ⟨A96, hA96⟩ : ∃ A1, A1 = (if co97 = (t440 : Int).toNat then Ao97 else (Ao97 : Option Addr).map (·.add ((t440 : Int).toNat * 1))) := ⟨_, rfl⟩
        obtain ⟨c96, hc96⟩ : ∃ c1, c1 = co97 - (t440 : Int).toNat := ⟨_, rfl⟩
        have hy96 : y462.length = ((wrap64 (t440 + (t441.length : Int))) : Int).toNat - (t440 : Int).toNat := (by rw [Ny462.out, List.length_drop, List.length_take] <;> omega)
        rw [show ((t446).take ((wrap64 (t440 + (t441.length : Int))) : Int).toNat).drop (t440 : Int).toNat = y462 from Ny462.out.symm] at hr96
        replace hr96 : Kd.C (Kd.int .i64) _ A96 y462.length y462 := (by rw [hA96]; exact hr96)
        rw [← hy96, ← hA96, ← hc96] at hcut96
        have HR465 := Aside0.mk hr96
        have HC465 := Aside0.mk (show y462.length ≤ c96 from by rw [hy96, hc96]; exact Nat.sub_le_sub_right (Nat.le_trans (by omega) hroom96) _)
        clear hr96 hC96 hroom96 hi096 hsz96 hc96
        have KY96 := Aside0.mk hy96
        have KA96 := Aside0.mk hA96
        clear hy96 hA96
        have KL96 := Aside0.mk (show ((wrap64 (t440 + (t441.length : Int))) : Int).toNat ≤ t446.length from by omega)
        have KM96 := Aside0.mk (show (t440 : Int).toNat ≤ ((wrap64 (t440 + (t441.length : Int))) : Int).toNat from by omega)
        replace q96 := eq_true q96
        refine start_ (n := 34) (S := fun w' => True) (ds := []) #[false, false, false, false, false, false, false, false, false, false, false, false, false, false, false, false, false, false, false, false, false, false, false, false, false, false, false, false, false, false, false, false, false, false] (by kernel_rfl) rfl rfl trivial (fun hHeld => ?_); refine with_tabW laws_FnPlaced.tab17 laws_FnPlaced.bits17 (fun HT_ HW_ => ?_)
        generalize wc.drew = w95 at HO_17 HO_19 HO_20 HB HR465 hHeld ⊢
        refine pure_ (i := 0) (N := some 132) (v := ?_) (a' := ?_) #[true, false, false, false, false, false, false, false, false, false, false, false, false, false, false, false, false, false, false, false, false, false, false, false, false, false, false, false, false, false, false, false, false, false] rfl rfl (any_of HT_.out (by kernel_rfl)) (fun _ _ _ h => h) (Or.inl ⟨by rfl, ?_⟩) ?_ ?_
        rotate_left
        · intro w'
          go_simp
          with_reducible rfl
        rotate_left
        · simp only [Act.put, List.setIfInBounds_toArray, List.set_cons_zero, List.set_cons_succ, i64_w, i32_w]
          rfl
        refine pure_ (i := 1) (N := some 133) (v := ?_) (a' := ?_) #[true, true, false, false, false, false, false, false, false, false, false, false, false, false, false, false, false, false, false, false, false, false, false, false, false, false, false, false, false, false, false, false, false, false] rfl rfl (any_of HT_.out (by kernel_rfl)) (fun _ _ _ h => h) (Or.inl ⟨by rfl, ?_⟩) ?_ ?_
        rotate_left
        · intro w'
          go_simp
          with_reducible rfl
        rotate_left
        · simp only [Act.put, List.setIfInBounds_toArray, List.set_cons_zero, List.set_cons_succ, i64_w, i32_w]
          rfl
        refine pure_ (i := 2) (N := some 134) (v := ?_) (a' := ?_) #[true, true, true, false, false, false, false, false, false, false, false, false, false, false, false, false, false, false, false, false, false, false, false, false, false, false, false, false, false, false, false, false, false, false] rfl rfl (any_of HT_.out (by kernel_rfl)) (fun _ _ _ h => h) (Or.inl ⟨by rfl, ?_⟩) ?_ ?_
        rotate_left
        · intro w'
          go_simp
          with_reducible rfl
        rotate_left
        · simp only [Act.put, List.setIfInBounds_toArray, List.set_cons_zero, List.set_cons_succ, i64_w, i32_w]
          rfl
        refine pure_ (i := 3) (N := some 135) (v := ?_) (a' := ?_) #[true, true, true, true, false, false, false, false, false, false, false, false, false, false, false, false, false, false, false, false, false, false, false, false, false, false, false, false, false, false, false, false, false, false] rfl rfl (any_of HT_.out (by kernel_rfl)) (fun _ _ _ h => h) (Or.inl ⟨by rfl, ?_⟩) ?_ ?_
        rotate_left
        · intro w'
          go_simp
          with_reducible rfl
        rotate_left
        · simp only [Act.put, List.setIfInBounds_toArray, List.set_cons_zero, List.set_cons_succ, i64_w, i32_w]
          rfl
        refine pure_ (i := 4) (N := some 136) (v := ?_) (a' := ?_) #[true, true, true, true, true, false, false, false, false, false, false, false, false, false, false, false, false, false, false, false, false, false, false, false, false, false, false, false, false, false, false, false, false, false] rfl rfl (any_of HT_.out (by kernel_rfl)) (fun _ _ _ h => h) (Or.inl ⟨by rfl, ?_⟩) ?_ ?_
        rotate_left
        · intro w'
          go_simp
          with_reducible rfl
        rotate_left
        · simp only [Act.put, List.setIfInBounds_toArray, List.set_cons_zero, List.set_cons_succ, i64_w, i32_w]
          rfl
        refine pure_ (i := 5) (N := some 137) (v := ?_) (a' := ?_) #[true, true, true, true, true, true, false, false, false, false, false, false, false, false, false, false, false, false, false, false, false, false, false, false, false, false, false, false, false, false, false, false, false, false] rfl rfl (any_of HT_.out (by kernel_rfl)) (fun _ _ _ h => h) (Or.inl ⟨by rfl, ?_⟩) ?_ ?_
        rotate_left
        · intro w'
          go_simp
          with_reducible rfl
        rotate_left
        · simp only [Act.put, List.setIfInBounds_toArray, List.set_cons_zero, List.set_cons_succ, i64_w, i32_w]
          rfl
        refine pure_ (i := 6) (N := some 138) (v := ?_) (a' := ?_) #[true, true, true, true, true, true, true, false, false, false, false, false, false, false, false, false, false, false, false, false, false, false, false, false, false, false, false, false, false, false, false, false, false, false] rfl rfl (any_of HT_.out (by kernel_rfl)) (fun _ _ _ h => h) (Or.inl ⟨by rfl, ?_⟩) ?_ ?_
        rotate_left
        · intro w'
          go_simp
          with_reducible rfl
        rotate_left
        · simp only [Act.put, List.setIfInBounds_toArray, List.set_cons_zero, List.set_cons_succ, i64_w, i32_w]
          rfl
        refine pure_ (i := 7) (N := some 139) (v := ?_) (a' := ?_) #[true, true, true, true, true, true, true, true, false, false, false, false, false, false, false, false, false, false, false, false, false, false, false, false, false, false, false, false, false, false, false, false, false, false] rfl rfl (any_of HT_.out (by kernel_rfl)) (fun _ _ _ h => h) (Or.inl ⟨by rfl, ?_⟩) ?_ ?_
        rotate_left
        · intro w'
          go_simp
          with_reducible rfl
        rotate_left
        · simp only [Act.put, List.setIfInBounds_toArray, List.set_cons_zero, List.set_cons_succ, i64_w, i32_w]
          rfl
        refine one_ (i := 8) (N := some 140) #[true, true, true, true, true, true, true, true, true, false, false, false, false, false, false, false, false, false, false, false, false, false, false, false, false, false, false, false, false, false, false, false, false, false] rfl rfl (one_of HT_.out (by kernel_rfl)) (by decide) (fun K hK => ?_)
        refine goes_ Try.func36 (by kernel_rfl) rfl #[.slice A96 y462.length c96, .slice Ao23 t441.length co23] (by rfl) rfl rfl zT8 ?_
        with_reducible refine (laws_sameInts.calls kj13 _ _ y462 _ _ t441 false _ ?side1 ?side2 ?side3 ?side4 A69.out).mono ?_
        (case side1 => repeat (first | exact (by repeat (first | (with_reducible exact HR465.out) | (with_reducible refine Kd.C_alloc ?_ _) | (with_reducible refine Kd.C_drewN ?_ _) | (with_reducible refine Kd.C_drew ?_) | exact HR465.out)) | (with_reducible refine Kd.C_alloc ?_ _) | (with_reducible refine Kd.C_drewN ?_ _) | (with_reducible refine Kd.C_drew ?_)))
        (case side2 => exact HC465.out)
        (case side3 => repeat (first | exact (Kd.R_reads' HO_19.out).2.2 | (with_reducible refine Kd.C_alloc ?_ _) | (with_reducible refine Kd.C_drewN ?_ _) | (with_reducible refine Kd.C_drew ?_)))
        (case side4 => exact (Kd.R_reads' HO_19.out).2.1)
        rintro e w' ⟨rfl, ⟨nd, rfl⟩⟩
        refine ⟨_, rfl, ?_⟩
        refine hK.out _ _ trivial (fun hHeld => ?_)
        clear hK K
        refine norm_ (a' := ?_) ?_ ?_
        rotate_left
        · show Act.put _ (some 140) _ = _
          simp only [Act.put, List.setIfInBounds_toArray, List.set_cons_zero, List.set_cons_succ, i64_w, i32_w]
          rfl
        refine pure_ (i := 9) (N := some 141) (v := ?_) (a' := ?_) #[true, true, true, true, true, true, true, true, true, true, false, false, false, false, false, false, false, false, false, false, false, false, false, false, false, false, false, false, false, false, false, false, false, false] rfl rfl (any_of HT_.out (by kernel_rfl)) (fun _ _ _ h => h) (Or.inl ⟨by rfl, ?_⟩) ?_ ?_
        rotate_left
        · intro w'
          go_simp
          with_reducible rfl
        rotate_left
        · simp only [Act.put, List.setIfInBounds_toArray, List.set_cons_zero, List.set_cons_succ, i64_w, i32_w]
          rfl
        refine pure_ (i := 10) (N := some 142) (v := undef) (a' := ?_) #[true, true, true, true, true, true, true, true, true, true, true, false, false, false, false, false, false, false, false, false, false, false, false, false, false, false, false, false, false, false, false, false, false, false] rfl rfl (any_of HT_.out (by kernel_rfl)) (fun _ _ _ h => h) (Or.inr ⟨by rfl, rfl⟩) ?_ ?_
        rotate_left
        · simp only [Act.put, List.setIfInBounds_toArray, List.set_cons_zero, List.set_cons_succ, i64_w, i32_w]
          rfl
        refine pure_ (i := 11) (N := some 143) (v := undef) (a' := ?_) #[true, true, true, true, true, true, true, true, true, true, true, true, false, false, false, false, false, false, false, false, false, false, false, false, false, false, false, false, false, false, false, false, false, false] rfl rfl (any_of HT_.out (by kernel_rfl)) (fun _ _ _ h => h) (Or.inr ⟨by rfl, rfl⟩) ?_ ?_
        rotate_left
        · simp only [Act.put, List.setIfInBounds_toArray, List.set_cons_zero, List.set_cons_succ, i64_w, i32_w]
          rfl
        refine pure_ (i := 12) (N := some 144) (v := undef) (a' := ?_) #[true, true, true, true, true, true, true, true, true, true, true, true, true, false, false, false, false, false, false, false, false, false, false, false, false, false, false, false, false, false, false, false, false, false] rfl rfl (any_of HT_.out (by kernel_rfl)) (fun _ _ _ h => h) (Or.inr ⟨by rfl, rfl⟩) ?_ ?_
        rotate_left
        · simp only [Act.put, List.setIfInBounds_toArray, List.set_cons_zero, List.set_cons_succ, i64_w, i32_w]
          rfl
        refine pure_ (i := 13) (N := some 145) (v := undef) (a' := ?_) #[true, true, true, true, true, true, true, true, true, true, true, true, true, true, false, false, false, false, false, false, false, false, false, false, false, false, false, false, false, false, false, false, false, false] rfl rfl (any_of HT_.out (by kernel_rfl)) (fun _ _ _ h => h) (Or.inr ⟨by rfl, rfl⟩) ?_ ?_
        rotate_left
        · simp only [Act.put, List.setIfInBounds_toArray, List.set_cons_zero, List.set_cons_succ, i64_w, i32_w]
          rfl
        refine pure_ (i := 14) (N := some 146) (v := undef) (a' := ?_) #[true, true, true, true, true, true, true, true, true, true, true, true, true, true, true, false, false, false, false, false, false, false, false, false, false, false, false, false, false, false, false, false, false, false] rfl rfl (any_of HT_.out (by kernel_rfl)) (fun _ _ _ h => h) (Or.inr ⟨by rfl, rfl⟩) ?_ ?_
        rotate_left
        · simp only [Act.put, List.setIfInBounds_toArray, List.set_cons_zero, List.set_cons_succ, i64_w, i32_w]
          rfl
        refine pure_ (i := 15) (N := some 147) (v := undef) (a' := ?_) #[true, true, true, true, true, true, true, true, true, true, true, true, true, true, true, true, false, false, false, false, false, false, false, false, false, false, false, false, false, false, false, false, false, false] rfl rfl (any_of HT_.out (by kernel_rfl)) (fun _ _ _ h => h) (Or.inr ⟨by rfl, rfl⟩) ?_ ?_
        rotate_left
        · simp only [Act.put, List.setIfInBounds_toArray, List.set_cons_zero, List.set_cons_succ, i64_w, i32_w]
          rfl
        refine pure_ (i := 16) (N := some 148) (v := undef) (a' := ?_) #[true, true, true, true, true, true, true, true, true, true, true, true, true, true, true, true, true, false, false, false, false, false, false, false, false, false, false, false, false, false, false, false, false, false] rfl rfl (any_of HT_.out (by kernel_rfl)) (fun _ _ _ h => h) (Or.inr ⟨by rfl, rfl⟩) ?_ ?_
        rotate_left
        · simp only [Act.put, List.setIfInBounds_toArray, List.set_cons_zero, List.set_cons_succ, i64_w, i32_w]
          rfl
        refine pure_ (i := 17) (N := some 149) (v := ?_) (a' := ?_) #[true, true, true, true, true, true, true, true, true, true, true, true, true, true, true, true, true, true, false, false, false, false, false, false, false, false, false, false, false, false, false, false, false, false] rfl rfl (any_of HT_.out (by kernel_rfl)) (fun _ _ _ h => h) (Or.inl ⟨by rfl, ?_⟩) ?_ ?_
        rotate_left
        · intro w'
          go_simp
          with_reducible rfl
        rotate_left
        · simp only [Act.put, List.setIfInBounds_toArray, List.set_cons_zero, List.set_cons_succ, i64_w, i32_w]
          rfl
        refine pure_ (i := 18) (N := some 150) (v := ?_) (a' := ?_) #[true, true, true, true, true, true, true, true, true, true, true, true, true, true, true, true, true, true, true, false, false, false, false, false, false, false, false, false, false, false, false, false, false, false] rfl rfl (any_of HT_.out (by kernel_rfl)) (fun _ _ _ h => h) (Or.inl ⟨by rfl, ?_⟩) ?_ ?_
        rotate_left
        · intro w'
          go_simp
          with_reducible rfl
        rotate_left
        · simp only [Act.put, List.setIfInBounds_toArray, List.set_cons_zero, List.set_cons_succ, i64_w, i32_w]
          rfl
        refine pure_ (i := 19) (N := some 151) (v := undef) (a' := ?_) #[true, true, true, true, true, true, true, true, true, true, true, true, true, true, true, true, true, true, true, true, false, false, false, false, false, false, false, false, false, false, false, false, false, false] rfl rfl (any_of HT_.out (by kernel_rfl)) (fun _ _ _ h => h) (Or.inr ⟨by rfl, rfl⟩) ?_ ?_
        rotate_left
        · simp only [Act.put, List.setIfInBounds_toArray, List.set_cons_zero, List.set_cons_succ, i64_w, i32_w]
          rfl
        refine pure_ (i := 20) (N := some 152) (v := undef) (a' := ?_) #[true, true, true, true, true, true, true, true, true, true, true, true, true, true, true, true, true, true, true, true, true, false, false, false, false, false, false, false, false, false, false, false, false, false] rfl rfl (any_of HT_.out (by kernel_rfl)) (fun _ _ _ h => h) (Or.inr ⟨by rfl, rfl⟩) ?_ ?_
        rotate_left
        · simp only [Act.put, List.setIfInBounds_toArray, List.set_cons_zero, List.set_cons_succ, i64_w, i32_w]
          rfl
        refine pure_ (i := 21) (N := some 153) (v := undef) (a' := ?_) #[true, true, true, true, true, true, true, true, true, true, true, true, true, true, true, true, true, true, true, true, true, true, false, false, false, false, false, false, false, false, false, false, false, false] rfl rfl (any_of HT_.out (by kernel_rfl)) (fun _ _ _ h => h) (Or.inr ⟨by rfl, rfl⟩) ?_ ?_
        rotate_left
        · simp only [Act.put, List.setIfInBounds_toArray, List.set_cons_zero, List.set_cons_succ, i64_w, i32_w]
          rfl
        refine pure_ (i := 22) (N := some 154) (v := undef) (a' := ?_) #[true, true, true, true, true, true, true, true, true, true, true, true, true, true, true, true, true, true, true, true, true, true, true, false, false, false, false, false, false, false, false, false, false, false] rfl rfl (any_of HT_.out (by kernel_rfl)) (fun _ _ _ h => h) (Or.inr ⟨by rfl, rfl⟩) ?_ ?_
        rotate_left
        · simp only [Act.put, List.setIfInBounds_toArray, List.set_cons_zero, List.set_cons_succ, i64_w, i32_w]
          rfl
        refine pure_ (i := 23) (N := some 155) (v := undef) (a' := ?_) #[true, true, true, true, true, true, true, true, true, true, true, true, true, true, true, true, true, true, true, true, true, true, true, true, false, false, false, false, false, false, false, false, false, false] rfl rfl (any_of HT_.out (by kernel_rfl)) (fun _ _ _ h => h) (Or.inr ⟨by rfl, rfl⟩) ?_ ?_
        rotate_left
        · simp only [Act.put, List.setIfInBounds_toArray, List.set_cons_zero, List.set_cons_succ, i64_w, i32_w]
          rfl
        refine pure_ (i := 24) (N := some 156) (v := undef) (a' := ?_) #[true, true, true, true, true, true, true, true, true, true, true, true, true, true, true, true, true, true, true, true, true, true, true, true, true, false, false, false, false, false, false, false, false, false] rfl rfl (any_of HT_.out (by kernel_rfl)) (fun _ _ _ h => h) (Or.inr ⟨by rfl, rfl⟩) ?_ ?_
        rotate_left
        · simp only [Act.put, List.setIfInBounds_toArray, List.set_cons_zero, List.set_cons_succ, i64_w, i32_w]
          rfl
        refine pure_ (i := 25) (N := some 157) (v := undef) (a' := ?_) #[true, true, true, true, true, true, true, true, true, true, true, true, true, true, true, true, true, true, true, true, true, true, true, true, true, true, false, false, false, false, false, false, false, false] rfl rfl (any_of HT_.out (by kernel_rfl)) (fun _ _ _ h => h) (Or.inr ⟨by rfl, rfl⟩) ?_ ?_
        rotate_left
        · simp only [Act.put, List.setIfInBounds_toArray, List.set_cons_zero, List.set_cons_succ, i64_w, i32_w]
          rfl
        refine pure_ (i := 26) (N := some 158) (v := undef) (a' := ?_) #[true, true, true, true, true, true, true, true, true, true, true, true, true, true, true, true, true, true, true, true, true, true, true, true, true, true, true, false, false, false, false, false, false, false] rfl rfl (any_of HT_.out (by kernel_rfl)) (fun _ _ _ h => h) (Or.inr ⟨by rfl, rfl⟩) ?_ ?_
        rotate_left
        · simp only [Act.put, List.setIfInBounds_toArray, List.set_cons_zero, List.set_cons_succ, i64_w, i32_w]
          rfl
        refine pure_ (i := 27) (N := some 159) (v := undef) (a' := ?_) #[true, true, true, true, true, true, true, true, true, true, true, true, true, true, true, true, true, true, true, true, true, true, true, true, true, true, true, true, false, false, false, false, false, false] rfl rfl (any_of HT_.out (by kernel_rfl)) (fun _ _ _ h => h) (Or.inr ⟨by rfl, rfl⟩) ?_ ?_
        rotate_left
        · simp only [Act.put, List.setIfInBounds_toArray, List.set_cons_zero, List.set_cons_succ, i64_w, i32_w]
          rfl
        refine pure_ (i := 28) (N := some 160) (v := undef) (a' := ?_) #[true, true, true, true, true, true, true, true, true, true, true, true, true, true, true, true, true, true, true, true, true, true, true, true, true, true, true, true, true, false, false, false, false, false] rfl rfl (any_of HT_.out (by kernel_rfl)) (fun _ _ _ h => h) (Or.inr ⟨by rfl, rfl⟩) ?_ ?_
        rotate_left
        · simp only [Act.put, List.setIfInBounds_toArray, List.set_cons_zero, List.set_cons_succ, i64_w, i32_w]
          rfl
        refine pure_ (i := 29) (N := some 161) (v := undef) (a' := ?_) #[true, true, true, true, true, true, true, true, true, true, true, true, true, true, true, true, true, true, true, true, true, true, true, true, true, true, true, true, true, true, false, false, false, false] rfl rfl (any_of HT_.out (by kernel_rfl)) (fun _ _ _ h => h) (Or.inr ⟨by rfl, rfl⟩) ?_ ?_
        rotate_left
        · simp only [Act.put, List.setIfInBounds_toArray, List.set_cons_zero, List.set_cons_succ, i64_w, i32_w]
          rfl
        refine pure_ (i := 30) (N := some 162) (v := undef) (a' := ?_) #[true, true, true, true, true, true, true, true, true, true, true, true, true, true, true, true, true, true, true, true, true, true, true, true, true, true, true, true, true, true, true, false, false, false] rfl rfl (any_of HT_.out (by kernel_rfl)) (fun _ _ _ h => h) (Or.inr ⟨by rfl, rfl⟩) ?_ ?_
        rotate_left
        · simp only [Act.put, List.setIfInBounds_toArray, List.set_cons_zero, List.set_cons_succ, i64_w, i32_w]
          rfl
        refine pure_ (i := 31) (N := some 163) (v := undef) (a' := ?_) #[true, true, true, true, true, true, true, true, true, true, true, true, true, true, true, true, true, true, true, true, true, true, true, true, true, true, true, true, true, true, true, true, false, false] rfl rfl (any_of HT_.out (by kernel_rfl)) (fun _ _ _ h => h) (Or.inr ⟨by rfl, rfl⟩) ?_ ?_
        rotate_left
        · simp only [Act.put, List.setIfInBounds_toArray, List.set_cons_zero, List.set_cons_succ, i64_w, i32_w]
          rfl
        refine pure_ (i := 32) (N := some 164) (v := ?_) (a' := ?_) #[true, true, true, true, true, true, true, true, true, true, true, true, true, true, true, true, true, true, true, true, true, true, true, true, true, true, true, true, true, true, true, true, true, false] rfl rfl (any_of HT_.out (by kernel_rfl)) (fun _ _ _ h => h) (Or.inl ⟨by rfl, ?_⟩) ?_ ?_
        rotate_left
        · intro w'
          go_simp
          with_reducible rfl
        rotate_left
        · simp only [Act.put, List.setIfInBounds_toArray, List.set_cons_zero, List.set_cons_succ, i64_w, i32_w]
          rfl
        refine pure_ (i := 33) (N := some 2) (v := ?_) (a' := ?_) #[true, true, true, true, true, true, true, true, true, true, true, true, true, true, true, true, true, true, true, true, true, true, true, true, true, true, true, true, true, true, true, true, true, true] rfl rfl (any_of HT_.out (by kernel_rfl)) (fun _ _ _ h => h) (Or.inl ⟨by rfl, ?_⟩) ?_ ?_
        rotate_left
        · intro w'
          go_simp
          with_reducible rfl
        rotate_left
        · simp only [Act.put, List.setIfInBounds_toArray, List.set_cons_zero, List.set_cons_succ, i64_w, i32_w]
          rfl
        refine done_ (done_of HT_.out (by kernel_rfl)) ?_
        try go_wp2
        go_ret
        exact ⟨zE8, zB8_0⟩
      subst c70
      have H1 : (if t440 ≤ (t446.length : Int) then (if t440 ≤ (t439.length : Int) then ((laws_sameInts.f kj13 (t446.take (t440 : Int).toNat) (t439.take (t440 : Int).toNat)).bind fun t475 => (if t475 = true then (if 0 ≤ (wrap64 (t440 + (t441.length : Int))) then (if (wrap64 (t440 + (t441.length : Int))) ≤ (t439.length : Int) then ((laws_sameInts.f kj13 (t446.drop ((wrap64 (t440 + (t441.length : Int))) : Int).toNat) (t439.drop ((wrap64 (t440 + (t441.length : Int))) : Int).toNat)).bind fun t484 => (some t484)) else (none)) else (none)) else (some false))) else (none)) else (none)) = some r := by rw [if_pos rfl] at H; exact H
      clear H
      have H := H1
      clear H1
      have c71b0 := eq_true (zA8 : 0 ≤ t440)
      by_cases c72 : t440 ≤ (t446.length : Int)
      rotate_left
      · rw [if_neg c72] at H
        exact absurd H (by simp)
      rw [if_pos c72] at H
      have c72b0 := eq_true c72
      have c72b1 : decide (t440 ≤ (t446.length : Int)) = true := decide_eq_true c72
      clear c72
      obtain ⟨y467, hy467⟩ : ∃ y_ : List Int, y_ = (t446.take (t440 : Int).toNat) := ⟨_, rfl⟩
      replace H : (if t440 ≤ (t439.length : Int) then ((laws_sameInts.f kj13 y467 (t439.take (t440 : Int).toNat)).bind fun t475 => (if t475 = true then (if 0 ≤ (wrap64 (t440 + (t441.length : Int))) then (if (wrap64 (t440 + (t441.length : Int))) ≤ (t439.length : Int) then ((laws_sameInts.f kj13 (t446.drop ((wrap64 (t440 + (t441.length : Int))) : Int).toNat) (t439.drop ((wrap64 (t440 + (t441.length : Int))) : Int).toNat)).bind fun t484 => (some t484)) else (none)) else (none)) else (some false))) else (none)) = some r := by first | (rw [hy467]; with_reducible exact H) | (have H2_ := (Option.bind_some _ _).symm.trans H; rw [hy467]; with_reducible exact H2_) | (have H2_ := (Option.bind_some _ _).symm.trans H; with_reducible exact H2_) | with_reducible exact H | (rw [hy467]; exact H) | exact H
      have Ny467 := Aside0.mk hy467
      clear hy467
      have c73b0 := eq_true (zA8 : 0 ≤ t440)
      by_cases c74 : t440 ≤ (t439.length : Int)
      rotate_left
      · rw [if_neg c74] at H
        exact absurd H (by simp)
      rw [if_pos c74] at H
      have c74b0 := eq_true c74
      have c74b1 : decide (t440 ≤ (t439.length : Int)) = true := decide_eq_true c74
      clear c74
      obtain ⟨y471, hy471⟩ : ∃ y_ : List Int, y_ = (t439.take (t440 : Int).toNat) := ⟨_, rfl⟩
      replace H : ((laws_sameInts.f kj13 y467 y471).bind fun t475 => (if t475 = true then (if 0 ≤ (wrap64 (t440 + (t441.length : Int))) then (if (wrap64 (t440 + (t441.length : Int))) ≤ (t439.length : Int) then ((laws_sameInts.f kj13 (t446.drop ((wrap64 (t440 + (t441.length : Int))) : Int).toNat) (t439.drop ((wrap64 (t440 + (t441.length : Int))) : Int).toNat)).bind fun t484 => (some t484)) else (none)) else (none)) else (some false))) = some r := by first | (rw [hy471]; with_reducible exact H) | (have H2_ := (Option.bind_some _ _).symm.trans H; rw [hy471]; with_reducible exact H2_) | (have H2_ := (Option.bind_some _ _).symm.trans H; with_reducible exact H2_) | with_reducible exact H | (rw [hy471]; exact H) | exact H
      have Ny471 := Aside0.mk hy471
      clear hy471
      replace H := Option.bind_eq_some_iff.mp H
      obtain ⟨t475, A750, H⟩ := H
      replace H : (if t475 = true then (if 0 ≤ (wrap64 (t440 + (t441.length : Int))) then (if (wrap64 (t440 + (t441.length : Int))) ≤ (t439.length : Int) then ((laws_sameInts.f kj13 (t446.drop ((wrap64 (t440 + (t441.length : Int))) : Int).toNat) (t439.drop ((wrap64 (t440 + (t441.length : Int))) : Int).toNat)).bind fun t484 => (some t484)) else (none)) else (none)) else (some false)) = some r := H
      have A75 := Aside0.mk A750
      clear A750
      by_cases c76 : t475 = true
      rotate_left
      · replace c76 := Bool.eq_false_iff.mpr c76
        subst c76
        have H1 : (some false) = some r := by rw [if_neg (show ¬ (false = true) by decide)] at H; exact H
        clear H
        have H := H1
        clear H1
        obtain rfl := Option.some.inj H
        try go_wp2
        have n0_ := Aside0.mk (Kd.R_drew HO_17.out)
        have n1_ := Aside0.mk (Kd.R_drew HO_19.out)
        have n2_ := Aside0.mk (Kd.R_drew HO_20.out)
        have n3_ := Aside0.mk (below_drew1 HB.out)
        clear HO_17 HO_19 HO_20 HB
        have HO_17 := n0_
        have HO_19 := n1_
        have HO_20 := n2_
        have HB := n3_
        clear n0_ n1_ n2_ n3_
        obtain ⟨Ao92, co92, eo92⟩ := Kd.R_slice HO_20.out
        (first | subst eo92 | (injection eo92 with f1_ f2_ f3_; have f4_ := f1_.symm; have f5_ := f3_.symm; clear f1_ f2_ f3_; subst f4_; subst f5_))
        have q91 : ((wrap64 (t440 + (t441.length : Int))) : Int) ≤ ((t446.length : Int) : Int) := zA8
        obtain ⟨i091, hi091, _, hsz91, _⟩ := info_parts info3
        have hroom91 : t446.length ≤ co92 := (Kd.R_reads' HO_20.out).2.1
        have hC91 : Kd.C (Kd.int .i64) _ Ao92 t446.length t446 := (Kd.R_reads' HO_20.out).2.2
        have ql91 : (t440 : Int) ≤ ((wrap64 (t440 + (t441.length : Int))) : Int) := zA8
        have q091 : (0 : Int) ≤ (t440 : Int) := zA8
        have hcut91 := cut_mid (P := Try.prog) 25 3 .i64 .i64 Try.underlying25 hi091 1 hsz91 Ao92 t446.length co92 t440 (wrap64 (t440 + (t441.length : Int))) q091 ql91 q91 hroom91
        have hr91 := Kd.C_mid (lo := (t440 : Int).toNat) (hi := ((wrap64 (t440 + (t441.length : Int))) : Int).toNat) (c := co92) hC91 (by omega) (by omega) hroom91
        obtain ⟨A91, hA91⟩ : ∃ A1, A1 = (if co92 = (t440 : Int).toNat then Ao92 else (Ao92 : Option Addr).map (·.add ((t440 : Int).toNat * 1))) := ⟨_, rfl⟩
        obtain ⟨c91, hc91⟩ : ∃ c1, c1 = co92 - (t440 : Int).toNat := ⟨_, rfl⟩
        have hy91 : y462.length = ((wrap64 (t440 + (t441.length : Int))) : Int).toNat - (t440 : Int).toNat := (by rw [Ny462.out, List.length_drop, List.length_take] <;> omega)
        rw [show ((t446).take ((wrap64 (t440 + (t441.length : Int))) : Int).toNat).drop (t440 : Int).toNat = y462 from Ny462.out.symm] at hr91
        replace hr91 : Kd.C (Kd.int .i64) _ A91 y462.length y462 := (by rw [hA91]; exact hr91)
        rw [← hy91, ← hA91, ← hc91] at hcut91
        have HR465 := Aside0.mk hr91
        have HC465 := Aside0.mk (show y462.length ≤ c91 from by rw [hy91, hc91]; exact Nat.sub_le_sub_right (Nat.le_trans (by omega) hroom91) _)
        clear hr91 hC91 hroom91 hi091 hsz91 hc91
        have KY91 := Aside0.mk hy91
        have KA91 := Aside0.mk hA91
        clear hy91 hA91
        have KL91 := Aside0.mk (show ((wrap64 (t440 + (t441.length : Int))) : Int).toNat ≤ t446.length from by omega)
        have KM91 := Aside0.mk (show (t440 : Int).toNat ≤ ((wrap64 (t440 + (t441.length : Int))) : Int).toNat from by omega)
        replace q91 := eq_true q91
        refine start_ (n := 34) (S := fun w' => True) (ds := []) #[false, false, false, false, false, false, false, false, false, false, false, false, false, false, false, false, false, false, false, false, false, false, false, false, false, false, false, false, false, false, false, false, false, false] (by kernel_rfl) rfl rfl trivial (fun hHeld => ?_); refine with_tabW laws_FnPlaced.tab17 laws_FnPlaced.bits17 (fun HT_ HW_ => ?_)
        generalize wc.drew = w90 at HO_17 HO_19 HO_20 HB HR465 hHeld ⊢
        refine pure_ (i := 0) (N := some 132) (v := ?_) (a' := ?_) #[true, false, false, false, false, false, false, false, false, false, false, false, false, false, false, false, false, false, false, false, false, false, false, false, false, false, false, false, false, false, false, false, false, false] rfl rfl (any_of HT_.out (by kernel_rfl)) (fun _ _ _ h => h) (Or.inl ⟨by rfl, ?_⟩) ?_ ?_
        rotate_left
        · intro w'
          go_simp
          with_reducible rfl
        rotate_left
        · simp only [Act.put, List.setIfInBounds_toArray, List.set_cons_zero, List.set_cons_succ, i64_w, i32_w]
          rfl
        refine pure_ (i := 1) (N := some 133) (v := ?_) (a' := ?_) #[true, true, false, false, false, false, false, false, false, false, false, false, false, false, false, false, false, false, false, false, false, false, false, false, false, false, false, false, false, false, false, false, false, false] rfl rfl (any_of HT_.out (by kernel_rfl)) (fun _ _ _ h => h) (Or.inl ⟨by rfl, ?_⟩) ?_ ?_
        rotate_left
        · intro w'
          go_simp
          with_reducible rfl
        rotate_left
        · simp only [Act.put, List.setIfInBounds_toArray, List.set_cons_zero, List.set_cons_succ, i64_w, i32_w]
          rfl
        refine pure_ (i := 2) (N := some 134) (v := ?_) (a' := ?_) #[true, true, true, false, false, false, false, false, false, false, false, false, false, false, false, false, false, false, false, false, false, false, false, false, false, false, false, false, false, false, false, false, false, false] rfl rfl (any_of HT_.out (by kernel_rfl)) (fun _ _ _ h => h) (Or.inl ⟨by rfl, ?_⟩) ?_ ?_
        rotate_left
        · intro w'
          go_simp
          with_reducible rfl
        rotate_left
        · simp only [Act.put, List.setIfInBounds_toArray, List.set_cons_zero, List.set_cons_succ, i64_w, i32_w]
          rfl
        refine pure_ (i := 3) (N := some 135) (v := ?_) (a' := ?_) #[true, true, true, true, false, false, false, false, false, false, false, false, false, false, false, false, false, false, false, false, false, false, false, false, false, false, false, false, false, false, false, false, false, false] rfl rfl (any_of HT_.out (by kernel_rfl)) (fun _ _ _ h => h) (Or.inl ⟨by rfl, ?_⟩) ?_ ?_
        rotate_left
        · intro w'
          go_simp
          with_reducible rfl
        rotate_left
        · simp only [Act.put, List.setIfInBounds_toArray, List.set_cons_zero, List.set_cons_succ, i64_w, i32_w]
          rfl
        refine pure_ (i := 4) (N := some 136) (v := ?_) (a' := ?_) #[true, true, true, true, true, false, false, false, false, false, false, false, false, false, false, false, false, false, false, false, false, false, false, false, false, false, false, false, false, false, false, false, false, false] rfl rfl (any_of HT_.out (by kernel_rfl)) (fun _ _ _ h => h) (Or.inl ⟨by rfl, ?_⟩) ?_ ?_
        rotate_left
        · intro w'
          go_simp
          with_reducible rfl
        rotate_left
        · simp only [Act.put, List.setIfInBounds_toArray, List.set_cons_zero, List.set_cons_succ, i64_w, i32_w]
          rfl
        refine pure_ (i := 5) (N := some 137) (v := ?_) (a' := ?_) #[true, true, true, true, true, true, false, false, false, false, false, false, false, false, false, false, false, false, false, false, false, false, false, false, false, false, false, false, false, false, false, false, false, false] rfl rfl (any_of HT_.out (by kernel_rfl)) (fun _ _ _ h => h) (Or.inl ⟨by rfl, ?_⟩) ?_ ?_
        rotate_left
        · intro w'
          go_simp
          with_reducible rfl
        rotate_left
        · simp only [Act.put, List.setIfInBounds_toArray, List.set_cons_zero, List.set_cons_succ, i64_w, i32_w]
          rfl
        refine pure_ (i := 6) (N := some 138) (v := ?_) (a' := ?_) #[true, true, true, true, true, true, true, false, false, false, false, false, false, false, false, false, false, false, false, false, false, false, false, false, false, false, false, false, false, false, false, false, false, false] rfl rfl (any_of HT_.out (by kernel_rfl)) (fun _ _ _ h => h) (Or.inl ⟨by rfl, ?_⟩) ?_ ?_
        rotate_left
        · intro w'
          go_simp
          with_reducible rfl
        rotate_left
        · simp only [Act.put, List.setIfInBounds_toArray, List.set_cons_zero, List.set_cons_succ, i64_w, i32_w]
          rfl
        refine pure_ (i := 7) (N := some 139) (v := ?_) (a' := ?_) #[true, true, true, true, true, true, true, true, false, false, false, false, false, false, false, false, false, false, false, false, false, false, false, false, false, false, false, false, false, false, false, false, false, false] rfl rfl (any_of HT_.out (by kernel_rfl)) (fun _ _ _ h => h) (Or.inl ⟨by rfl, ?_⟩) ?_ ?_
        rotate_left
        · intro w'
          go_simp
          with_reducible rfl
        rotate_left
        · simp only [Act.put, List.setIfInBounds_toArray, List.set_cons_zero, List.set_cons_succ, i64_w, i32_w]
          rfl
        refine one_ (i := 8) (N := some 140) #[true, true, true, true, true, true, true, true, true, false, false, false, false, false, false, false, false, false, false, false, false, false, false, false, false, false, false, false, false, false, false, false, false, false] rfl rfl (one_of HT_.out (by kernel_rfl)) (by decide) (fun K hK => ?_)
        refine goes_ Try.func36 (by kernel_rfl) rfl #[.slice A91 y462.length c91, .slice Ao23 t441.length co23] (by rfl) rfl rfl zT8 ?_
        with_reducible refine (laws_sameInts.calls kj13 _ _ y462 _ _ t441 true _ ?side1 ?side2 ?side3 ?side4 A69.out).mono ?_
        (case side1 => repeat (first | exact (by repeat (first | (with_reducible exact HR465.out) | (with_reducible refine Kd.C_alloc ?_ _) | (with_reducible refine Kd.C_drewN ?_ _) | (with_reducible refine Kd.C_drew ?_) | exact HR465.out)) | (with_reducible refine Kd.C_alloc ?_ _) | (with_reducible refine Kd.C_drewN ?_ _) | (with_reducible refine Kd.C_drew ?_)))
        (case side2 => exact HC465.out)
        (case side3 => repeat (first | exact (Kd.R_reads' HO_19.out).2.2 | (with_reducible refine Kd.C_alloc ?_ _) | (with_reducible refine Kd.C_drewN ?_ _) | (with_reducible refine Kd.C_drew ?_)))
        (case side4 => exact (Kd.R_reads' HO_19.out).2.1)
        rintro e w' ⟨rfl, ⟨nd, rfl⟩⟩
        refine ⟨_, rfl, ?_⟩
        have q93 : (t440 : Int) ≤ ((t446.length : Int) : Int) := zA8
        obtain ⟨i093, hi093, _, hsz93, _⟩ := info_parts info3
        have hroom93 : t446.length ≤ co92 := (Kd.R_reads' HO_20.out).2.1
        have hC93 : Kd.C (Kd.int .i64) _ Ao92 t446.length t446 := (Kd.R_reads' HO_20.out).2.2
        have hcut93 := cut_to (P := Try.prog) 25 3 .i64 Try.underlying25 hi093 Ao92 t446.length co92 t440 (zA8) q93 hroom93
        have hr93 := Kd.C_take (m := (t440 : Int).toNat) hC93 (by omega)
        have hy93 : y467.length = (t440 : Int).toNat := (by rw [Ny467.out, List.length_take]; omega)
        rw [← Ny467.out] at hr93
        rw [← hy93] at hcut93
        have HR470 := Aside0.mk hr93
        have HC470 := Aside0.mk (show y467.length ≤ co92 from by omega)
        clear hr93 hC93 hroom93 hi093 hsz93
        have KY93 := Aside0.mk hy93
        clear hy93
        have KL93 := Aside0.mk (show (t440 : Int).toNat ≤ t446.length from by omega)
        replace q93 := eq_true q93
        have q94 : (t440 : Int) ≤ ((t439.length : Int) : Int) := zA8
        obtain ⟨i094, hi094, _, hsz94, _⟩ := info_parts info3
        have hroom94 : t439.length ≤ co22 := (Kd.R_reads' HO_17.out).2.1
        have hC94 : Kd.C (Kd.int .i64) _ Ao22 t439.length t439 := (Kd.R_reads' HO_17.out).2.2
        have hcut94 := cut_to (P := Try.prog) 25 3 .i64 Try.underlying25 hi094 Ao22 t439.length co22 t440 (zA8) q94 hroom94
        have hr94 := Kd.C_take (m := (t440 : Int).toNat) hC94 (by omega)
        have hy94 : y471.length = (t440 : Int).toNat := (by rw [Ny471.out, List.length_take]; omega)
        rw [← Ny471.out] at hr94
        rw [← hy94] at hcut94
        have HR474 := Aside0.mk hr94
        have HC474 := Aside0.mk (show y471.length ≤ co22 from by omega)
        clear hr94 hC94 hroom94 hi094 hsz94
        have KY94 := Aside0.mk hy94
        clear hy94
        have KL94 := Aside0.mk (show (t440 : Int).toNat ≤ t439.length from by omega)
        replace q94 := eq_true q94
        refine hK.out _ _ trivial (fun hHeld => ?_)
        clear hK K
        refine norm_ (a' := ?_) ?_ ?_
        rotate_left
        · show Act.put _ (some 140) _ = _
          simp only [Act.put, List.setIfInBounds_toArray, List.set_cons_zero, List.set_cons_succ, i64_w, i32_w]
          rfl
        refine pure_ (i := 9) (N := some 141) (v := ?_) (a' := ?_) #[true, true, true, true, true, true, true, true, true, true, false, false, false, false, false, false, false, false, false, false, false, false, false, false, false, false, false, false, false, false, false, false, false, false] rfl rfl (any_of HT_.out (by kernel_rfl)) (fun _ _ _ h => h) (Or.inl ⟨by rfl, ?_⟩) ?_ ?_
        rotate_left
        · intro w'
          go_simp
          with_reducible rfl
        rotate_left
        · simp only [Act.put, List.setIfInBounds_toArray, List.set_cons_zero, List.set_cons_succ, i64_w, i32_w]
          rfl
        refine pure_ (i := 10) (N := some 142) (v := ?_) (a' := ?_) #[true, true, true, true, true, true, true, true, true, true, true, false, false, false, false, false, false, false, false, false, false, false, false, false, false, false, false, false, false, false, false, false, false, false] rfl rfl (any_of HT_.out (by kernel_rfl)) (fun _ _ _ h => h) (Or.inl ⟨by rfl, ?_⟩) ?_ ?_
        rotate_left
        · intro w'
          go_simp
          with_reducible rfl
        rotate_left
        · simp only [Act.put, List.setIfInBounds_toArray, List.set_cons_zero, List.set_cons_succ, i64_w, i32_w]
          rfl
        refine pure_ (i := 11) (N := some 143) (v := ?_) (a' := ?_) #[true, true, true, true, true, true, true, true, true, true, true, true, false, false, false, false, false, false, false, false, false, false, false, false, false, false, false, false, false, false, false, false, false, false] rfl rfl (any_of HT_.out (by kernel_rfl)) (fun _ _ _ h => h) (Or.inl ⟨by rfl, ?_⟩) ?_ ?_
        rotate_left
        · intro w'
          go_simp
          with_reducible rfl
        rotate_left
        · simp only [Act.put, List.setIfInBounds_toArray, List.set_cons_zero, List.set_cons_succ, i64_w, i32_w]
          rfl
        refine pure_ (i := 12) (N := some 144) (v := ?_) (a' := ?_) #[true, true, true, true, true, true, true, true, true, true, true, true, true, false, false, false, false, false, false, false, false, false, false, false, false, false, false, false, false, false, false, false, false, false] rfl rfl (any_of HT_.out (by kernel_rfl)) (fun _ _ _ h => h) (Or.inl ⟨by rfl, ?_⟩) ?_ ?_
        rotate_left
        · intro w'
          go_simp
          with_reducible rfl
        rotate_left
        · simp only [Act.put, List.setIfInBounds_toArray, List.set_cons_zero, List.set_cons_succ, i64_w, i32_w]
          rfl
        refine pure_ (i := 13) (N := some 145) (v := ?_) (a' := ?_) #[true, true, true, true, true, true, true, true, true, true, true, true, true, true, false, false, false, false, false, false, false, false, false, false, false, false, false, false, false, false, false, false, false, false] rfl rfl (any_of HT_.out (by kernel_rfl)) (fun _ _ _ h => h) (Or.inl ⟨by rfl, ?_⟩) ?_ ?_
        rotate_left
        · intro w'
          go_simp
          with_reducible rfl
        rotate_left
        · simp only [Act.put, List.setIfInBounds_toArray, List.set_cons_zero, List.set_cons_succ, i64_w, i32_w]
          rfl
        refine pure_ (i := 14) (N := some 146) (v := ?_) (a' := ?_) #[true, true, true, true, true, true, true, true, true, true, true, true, true, true, true, false, false, false, false, false, false, false, false, false, false, false, false, false, false, false, false, false, false, false] rfl rfl (any_of HT_.out (by kernel_rfl)) (fun _ _ _ h => h) (Or.inl ⟨by rfl, ?_⟩) ?_ ?_
        rotate_left
        · intro w'
          go_simp
          with_reducible rfl
        rotate_left
        · simp only [Act.put, List.setIfInBounds_toArray, List.set_cons_zero, List.set_cons_succ, i64_w, i32_w]
          rfl
        refine pure_ (i := 15) (N := some 147) (v := ?_) (a' := ?_) #[true, true, true, true, true, true, true, true, true, true, true, true, true, true, true, true, false, false, false, false, false, false, false, false, false, false, false, false, false, false, false, false, false, false] rfl rfl (any_of HT_.out (by kernel_rfl)) (fun _ _ _ h => h) (Or.inl ⟨by rfl, ?_⟩) ?_ ?_
        rotate_left
        · intro w'
          go_simp
          with_reducible rfl
        rotate_left
        · simp only [Act.put, List.setIfInBounds_toArray, List.set_cons_zero, List.set_cons_succ, i64_w, i32_w]
          rfl
        refine one_ (i := 16) (N := some 148) #[true, true, true, true, true, true, true, true, true, true, true, true, true, true, true, true, true, false, false, false, false, false, false, false, false, false, false, false, false, false, false, false, false, false] rfl rfl (one_of HT_.out (by kernel_rfl)) (by decide) (fun K hK => ?_)
        refine goes_ Try.func36 (by kernel_rfl) rfl #[.slice Ao92 y467.length co92, .slice Ao22 y471.length co22] (by rfl) rfl rfl zT8 ?_
        with_reducible refine (laws_sameInts.calls kj13 _ _ y467 _ _ y471 false _ ?side1 ?side2 ?side3 ?side4 A75.out).mono ?_
        (case side1 => repeat (first | exact (by repeat (first | (with_reducible exact HR470.out) | (with_reducible refine Kd.C_alloc ?_ _) | (with_reducible refine Kd.C_drewN ?_ _) | (with_reducible refine Kd.C_drew ?_) | exact HR470.out)) | (with_reducible refine Kd.C_alloc ?_ _) | (with_reducible refine Kd.C_drewN ?_ _) | (with_reducible refine Kd.C_drew ?_)))
        (case side2 => exact HC470.out)
        (case side3 => repeat (first | exact (by repeat (first | (with_reducible exact HR474.out) | (with_reducible refine Kd.C_alloc ?_ _) | (with_reducible refine Kd.C_drewN ?_ _) | (with_reducible refine Kd.C_drew ?_) | exact HR474.out)) | (with_reducible refine Kd.C_alloc ?_ _) | (with_reducible refine Kd.C_drewN ?_ _) | (with_reducible refine Kd.C_drew ?_)))
        (case side4 => exact HC474.out)
        rintro e w' ⟨rfl, ⟨nd, rfl⟩⟩
        refine ⟨_, rfl, ?_⟩
        refine hK.out _ _ trivial (fun hHeld => ?_)
        clear hK K
        refine norm_ (a' := ?_) ?_ ?_
        rotate_left
        · show Act.put _ (some 148) _ = _
          simp only [Act.put, List.setIfInBounds_toArray, List.set_cons_zero, List.set_cons_succ, i64_w, i32_w]
          rfl
        refine pure_ (i := 17) (N := some 149) (v := ?_) (a' := ?_) #[true, true, true, true, true, true, true, true, true, true, true, true, true, true, true, true, true, true, false, false, false, false, false, false, false, false, false, false, false, false, false, false, false, false] rfl rfl (any_of HT_.out (by kernel_rfl)) (fun _ _ _ h => h) (Or.inl ⟨by rfl, ?_⟩) ?_ ?_
        rotate_left
        · intro w'
          go_simp
          with_reducible rfl
        rotate_left
        · simp only [Act.put, List.setIfInBounds_toArray, List.set_cons_zero, List.set_cons_succ, i64_w, i32_w]
          rfl
        refine pure_ (i := 18) (N := some 150) (v := ?_) (a' := ?_) #[true, true, true, true, true, true, true, true, true, true, true, true, true, true, true, true, true, true, true, false, false, false, false, false, false, false, false, false, false, false, false, false, false, false] rfl rfl (any_of HT_.out (by kernel_rfl)) (fun _ _ _ h => h) (Or.inl ⟨by rfl, ?_⟩) ?_ ?_
        rotate_left
        · intro w'
          go_simp
          with_reducible rfl
        rotate_left
        · simp only [Act.put, List.setIfInBounds_toArray, List.set_cons_zero, List.set_cons_succ, i64_w, i32_w]
          rfl
        refine pure_ (i := 19) (N := some 151) (v := undef) (a' := ?_) #[true, true, true, true, true, true, true, true, true, true, true, true, true, true, true, true, true, true, true, true, false, false, false, false, false, false, false, false, false, false, false, false, false, false] rfl rfl (any_of HT_.out (by kernel_rfl)) (fun _ _ _ h => h) (Or.inr ⟨by rfl, rfl⟩) ?_ ?_
        rotate_left
        · simp only [Act.put, List.setIfInBounds_toArray, List.set_cons_zero, List.set_cons_succ, i64_w, i32_w]
          rfl
        refine pure_ (i := 20) (N := some 152) (v := undef) (a' := ?_) #[true, true, true, true, true, true, true, true, true, true, true, true, true, true, true, true, true, true, true, true, true, false, false, false, false, false, false, false, false, false, false, false, false, false] rfl rfl (any_of HT_.out (by kernel_rfl)) (fun _ _ _ h => h) (Or.inr ⟨by rfl, rfl⟩) ?_ ?_
        rotate_left
        · simp only [Act.put, List.setIfInBounds_toArray, List.set_cons_zero, List.set_cons_succ, i64_w, i32_w]
          rfl
        refine pure_ (i := 21) (N := some 153) (v := undef) (a' := ?_) #[true, true, true, true, true, true, true, true, true, true, true, true, true, true, true, true, true, true, true, true, true, true, false, false, false, false, false, false, false, false, false, false, false, false] rfl rfl (any_of HT_.out (by kernel_rfl)) (fun _ _ _ h => h) (Or.inr ⟨by rfl, rfl⟩) ?_ ?_
        rotate_left
        · simp only [Act.put, List.setIfInBounds_toArray, List.set_cons_zero, List.set_cons_succ, i64_w, i32_w]
          rfl
        refine pure_ (i := 22) (N := some 154) (v := undef) (a' := ?_) #[true, true, true, true, true, true, true, true, true, true, true, true, true, true, true, true, true, true, true, true, true, true, true, false, false, false, false, false, false, false, false, false, false, false] rfl rfl (any_of HT_.out (by kernel_rfl)) (fun _ _ _ h => h) (Or.inr ⟨by rfl, rfl⟩) ?_ ?_
        rotate_left
        · simp only [Act.put, List.setIfInBounds_toArray, List.set_cons_zero, List.set_cons_succ, i64_w, i32_w]
          rfl
        refine pure_ (i := 23) (N := some 155) (v := undef) (a' := ?_) #[true, true, true, true, true, true, true, true, true, true, true, true, true, true, true, true, true, true, true, true, true, true, true, true, false, false, false, false, false, false, false, false, false, false] rfl rfl (any_of HT_.out (by kernel_rfl)) (fun _ _ _ h => h) (Or.inr ⟨by rfl, rfl⟩) ?_ ?_
        rotate_left
        · simp only [Act.put, List.setIfInBounds_toArray, List.set_cons_zero, List.set_cons_succ, i64_w, i32_w]
          rfl
        refine pure_ (i := 24) (N := some 156) (v := undef) (a' := ?_) #[true, true, true, true, true, true, true, true, true, true, true, true, true, true, true, true, true, true, true, true, true, true, true, true, true, false, false, false, false, false, false, false, false, false] rfl rfl (any_of HT_.out (by kernel_rfl)) (fun _ _ _ h => h) (Or.inr ⟨by rfl, rfl⟩) ?_ ?_
        rotate_left
        · simp only [Act.put, List.setIfInBounds_toArray, List.set_cons_zero, List.set_cons_succ, i64_w, i32_w]
          rfl
        refine pure_ (i := 25) (N := some 157) (v := undef) (a' := ?_) #[true, true, true, true, true, true, true, true, true, true, true, true, true, true, true, true, true, true, true, true, true, true, true, true, true, true, false, false, false, false, false, false, false, false] rfl rfl (any_of HT_.out (by kernel_rfl)) (fun _ _ _ h => h) (Or.inr ⟨by rfl, rfl⟩) ?_ ?_
        rotate_left
        · simp only [Act.put, List.setIfInBounds_toArray, List.set_cons_zero, List.set_cons_succ, i64_w, i32_w]
          rfl
        refine pure_ (i := 26) (N := some 158) (v := undef) (a' := ?_) #[true, true, true, true, true, true, true, true, true, true, true, true, true, true, true, true, true, true, true, true, true, true, true, true, true, true, true, false, false, false, false, false, false, false] rfl rfl (any_of HT_.out (by kernel_rfl)) (fun _ _ _ h => h) (Or.inr ⟨by rfl, rfl⟩) ?_ ?_
        rotate_left
        · simp only [Act.put, List.setIfInBounds_toArray, List.set_cons_zero, List.set_cons_succ, i64_w, i32_w]
          rfl
        refine pure_ (i := 27) (N := some 159) (v := undef) (a' := ?_) #[true, true, true, true, true, true, true, true, true, true, true, true, true, true, true, true, true, true, true, true, true, true, true, true, true, true, true, true, false, false, false, false, false, false] rfl rfl (any_of HT_.out (by kernel_rfl)) (fun _ _ _ h => h) (Or.inr ⟨by rfl, rfl⟩) ?_ ?_
        rotate_left
        · simp only [Act.put, List.setIfInBounds_toArray, List.set_cons_zero, List.set_cons_succ, i64_w, i32_w]
          rfl
        refine pure_ (i := 28) (N := some 160) (v := undef) (a' := ?_) #[true, true, true, true, true, true, true, true, true, true, true, true, true, true, true, true, true, true, true, true, true, true, true, true, true, true, true, true, true, false, false, false, false, false] rfl rfl (any_of HT_.out (by kernel_rfl)) (fun _ _ _ h => h) (Or.inr ⟨by rfl, rfl⟩) ?_ ?_
        rotate_left
        · simp only [Act.put, List.setIfInBounds_toArray, List.set_cons_zero, List.set_cons_succ, i64_w, i32_w]
          rfl
        refine pure_ (i := 29) (N := some 161) (v := undef) (a' := ?_) #[true, true, true, true, true, true, true, true, true, true, true, true, true, true, true, true, true, true, true, true, true, true, true, true, true, true, true, true, true, true, false, false, false, false] rfl rfl (any_of HT_.out (by kernel_rfl)) (fun _ _ _ h => h) (Or.inr ⟨by rfl, rfl⟩) ?_ ?_
        rotate_left
        · simp only [Act.put, List.setIfInBounds_toArray, List.set_cons_zero, List.set_cons_succ, i64_w, i32_w]
          rfl
        refine pure_ (i := 30) (N := some 162) (v := undef) (a' := ?_) #[true, true, true, true, true, true, true, true, true, true, true, true, true, true, true, true, true, true, true, true, true, true, true, true, true, true, true, true, true, true, true, false, false, false] rfl rfl (any_of HT_.out (by kernel_rfl)) (fun _ _ _ h => h) (Or.inr ⟨by rfl, rfl⟩) ?_ ?_
        rotate_left
        · simp only [Act.put, List.setIfInBounds_toArray, List.set_cons_zero, List.set_cons_succ, i64_w, i32_w]
          rfl
        refine pure_ (i := 31) (N := some 163) (v := undef) (a' := ?_) #[true, true, true, true, true, true, true, true, true, true, true, true, true, true, true, true, true, true, true, true, true, true, true, true, true, true, true, true, true, true, true, true, false, false] rfl rfl (any_of HT_.out (by kernel_rfl)) (fun _ _ _ h => h) (Or.inr ⟨by rfl, rfl⟩) ?_ ?_
        rotate_left
        · simp only [Act.put, List.setIfInBounds_toArray, List.set_cons_zero, List.set_cons_succ, i64_w, i32_w]
          rfl
        refine pure_ (i := 32) (N := some 164) (v := ?_) (a' := ?_) #[true, true, true, true, true, true, true, true, true, true, true, true, true, true, true, true, true, true, true, true, true, true, true, true, true, true, true, true, true, true, true, true, true, false] rfl rfl (any_of HT_.out (by kernel_rfl)) (fun _ _ _ h => h) (Or.inl ⟨by rfl, ?_⟩) ?_ ?_
        rotate_left
        · intro w'
          go_simp
          with_reducible rfl
        rotate_left
        · simp only [Act.put, List.setIfInBounds_toArray, List.set_cons_zero, List.set_cons_succ, i64_w, i32_w]
          rfl
        refine pure_ (i := 33) (N := some 2) (v := ?_) (a' := ?_) #[true, true, true, true, true, true, true, true, true, true, true, true, true, true, true, true, true, true, true, true, true, true, true, true, true, true, true, true, true, true, true, true, true, true] rfl rfl (any_of HT_.out (by kernel_rfl)) (fun _ _ _ h => h) (Or.inl ⟨by rfl, ?_⟩) ?_ ?_
        rotate_left
        · intro w'
          go_simp
          with_reducible rfl
        rotate_left
        · simp only [Act.put, List.setIfInBounds_toArray, List.set_cons_zero, List.set_cons_succ, i64_w, i32_w]
          rfl
        refine done_ (done_of HT_.out (by kernel_rfl)) ?_
        try go_wp2
        go_ret
        exact ⟨zE8, zB8_0⟩
      subst c76
      have H1 : (if 0 ≤ (wrap64 (t440 + (t441.length : Int))) then (if (wrap64 (t440 + (t441.length : Int))) ≤ (t439.length : Int) then ((laws_sameInts.f kj13 (t446.drop ((wrap64 (t440 + (t441.length : Int))) : Int).toNat) (t439.drop ((wrap64 (t440 + (t441.length : Int))) : Int).toNat)).bind fun t484 => (some t484)) else (none)) else (none)) = some r := by rw [if_pos rfl] at H; exact H
      clear H
      have H := H1
      clear H1
      obtain ⟨ji77, hji77⟩ : ∃ j_ : Int, (wrap64 (t440 + (t441.length : Int))) = j_ := ⟨_, rfl⟩
      replace H : (if 0 ≤ (ji77) then (if (ji77) ≤ (t439.length : Int) then ((laws_sameInts.f kj13 (t446.drop ((ji77) : Int).toNat) (t439.drop ((ji77) : Int).toNat)).bind fun t484 => (some t484)) else (none)) else (none)) = some r := by first | (rw [hji77] at H; exact H) | (simp only [hji77] at H ⊢; exact H)
      (try rw [hji77] at c67b0)
      (try rw [hji77] at c67b1)
      (try rw [hji77] at c67)
      (try rw [hji77] at c68b0)
      (try rw [hji77] at c68b1)
      (try rw [hji77] at c68)
      (try rw [hji77] at Ny462)
      (try rw [hji77] at A69)
      (try rw [hji77] at A75)
      have hji77w : (IntKind.i64.wrap (t440 + (t441.length : Int))) = ji77 := (i64_w _).trans hji77
      by_cases c78 : 0 ≤ (ji77)
      rotate_left
      · rw [if_neg c78] at H
        exact absurd H (by simp)
      rw [if_pos c78] at H
      have c78b0 := eq_true c78
      have c78b1 : decide (0 ≤ (ji77)) = true := decide_eq_true c78
      clear c78
      have c79b0 := eq_true (zA8 : (ji77) ≤ (t446.length : Int))
      obtain ⟨y476, hy476⟩ : ∃ y_ : List Int, y_ = (t446.drop ((ji77) : Int).toNat) := ⟨_, rfl⟩
      replace H : (if (ji77) ≤ (t439.length : Int) then ((laws_sameInts.f kj13 y476 (t439.drop ((ji77) : Int).toNat)).bind fun t484 => (some t484)) else (none)) = some r := by first | (rw [hy476]; with_reducible exact H) | (have H2_ := (Option.bind_some _ _).symm.trans H; rw [hy476]; with_reducible exact H2_) | (have H2_ := (Option.bind_some _ _).symm.trans H; with_reducible exact H2_) | with_reducible exact H | (rw [hy476]; exact H) | exact H
      have Ny476 := Aside0.mk hy476
      clear hy476
      have c80b0 := eq_true (zA8 : 0 ≤ (ji77))
      by_cases c81 : (ji77) ≤ (t439.length : Int)
      rotate_left
      · rw [if_neg c81] at H
        exact absurd H (by simp)
      rw [if_pos c81] at H
      have c81b0 := eq_true c81
      have c81b1 : decide ((ji77) ≤ (t439.length : Int)) = true := decide_eq_true c81
      clear c81
      obtain ⟨y480, hy480⟩ : ∃ y_ : List Int, y_ = (t439.drop ((ji77) : Int).toNat) := ⟨_, rfl⟩
      replace H : ((laws_sameInts.f kj13 y476 y480).bind fun t484 => (some t484)) = some r := by first | (rw [hy480]; with_reducible exact H) | (have H2_ := (Option.bind_some _ _).symm.trans H; rw [hy480]; with_reducible exact H2_) | (have H2_ := (Option.bind_some _ _).symm.trans H; with_reducible exact H2_) | with_reducible exact H | (rw [hy480]; exact H) | exact H
      have Ny480 := Aside0.mk hy480
      clear hy480
      replace H := Option.bind_eq_some_iff.mp H
      obtain ⟨t484, A820, H⟩ := H
      replace H : (some t484) = some r := H
      have A82 := Aside0.mk A820
      clear A820
      obtain rfl := Option.some.inj H
      try go_wp2
      have n0_ := Aside0.mk (Kd.R_drew HO_17.out)
      have n1_ := Aside0.mk (Kd.R_drew HO_19.out)
      have n2_ := Aside0.mk (Kd.R_drew HO_20.out)
      have n3_ := Aside0.mk (below_drew1 HB.out)
      clear HO_17 HO_19 HO_20 HB
      have HO_17 := n0_
      have HO_19 := n1_
      have HO_20 := n2_
      have HB := n3_
      clear n0_ n1_ n2_ n3_
      obtain ⟨Ao85, co85, eo85⟩ := Kd.R_slice HO_20.out
      (first | subst eo85 | (injection eo85 with f1_ f2_ f3_; have f4_ := f1_.symm; have f5_ := f3_.symm; clear f1_ f2_ f3_; subst f4_; subst f5_))
      have q84 : ((ji77) : Int) ≤ ((t446.length : Int) : Int) := zA8
      obtain ⟨i084, hi084, _, hsz84, _⟩ := info_parts info3
      have hroom84 : t446.length ≤ co85 := (Kd.R_reads' HO_20.out).2.1
      have hC84 : Kd.C (Kd.int .i64) _ Ao85 t446.length t446 := (Kd.R_reads' HO_20.out).2.2
      have ql84 : (t440 : Int) ≤ ((ji77) : Int) := zA8
      have q084 : (0 : Int) ≤ (t440 : Int) := zA8
      have hcut84 := cut_mid (P := Try.prog) 25 3 .i64 .i64 Try.underlying25 hi084 1 hsz84 Ao85 t446.length co85 t440 (ji77) q084 ql84 q84 hroom84
      have hr84 := Kd.C_mid (lo := (t440 : Int).toNat) (hi := ((ji77) : Int).toNat) (c := co85) hC84 (by omega) (by omega) hroom84
      obtain ⟨A84, hA84⟩ : ∃ A1, A1 = (if co85 = (t440 : Int).toNat then Ao85 else (Ao85 : Option Addr).map (·.add ((t440 : Int).toNat * 1))) := ⟨_, rfl⟩
      obtain ⟨c84, hc84⟩ : ∃ c1, c1 = co85 - (t440 : Int).toNat := ⟨_, rfl⟩
      have hy84 : y462.length = ((ji77) : Int).toNat - (t440 : Int).toNat := (by rw [Ny462.out, List.length_drop, List.length_take] <;> omega)
      rw [show ((t446).take ((ji77) : Int).toNat).drop (t440 : Int).toNat = y462 from Ny462.out.symm] at hr84
      replace hr84 : Kd.C (Kd.int .i64) _ A84 y462.length y462 := (by rw [hA84]; exact hr84)
      rw [← hy84, ← hA84, ← hc84] at hcut84
      have HR465 := Aside0.mk hr84
      have HC465 := Aside0.mk (show y462.length ≤ c84 from by rw [hy84, hc84]; exact Nat.sub_le_sub_right (Nat.le_trans (by omega) hroom84) _)
      clear hr84 hC84 hroom84 hi084 hsz84 hc84
      have KY84 := Aside0.mk hy84
      have KA84 := Aside0.mk hA84
      clear hy84 hA84
      have KL84 := Aside0.mk (show ((ji77) : Int).toNat ≤ t446.length from by omega)
      have KM84 := Aside0.mk (show (t440 : Int).toNat ≤ ((ji77) : Int).toNat from by omega)
      replace q84 := eq_true q84
      refine start_ (n := 34) (S := fun w' => True) (ds := []) #[false, false, false, false, false, false, false, false, false, false, false, false, false, false, false, false, false, false, false, false, false, false, false, false, false, false, false, false, false, false, false, false, false, false] (by kernel_rfl) rfl rfl trivial (fun hHeld => ?_); refine with_tabW laws_FnPlaced.tab17 laws_FnPlaced.bits17 (fun HT_ HW_ => ?_)
      generalize wc.drew = w83 at HO_17 HO_19 HO_20 HB HR465 hHeld ⊢
      refine pure_ (i := 0) (N := some 132) (v := ?_) (a' := ?_) #[true, false, false, false, false, false, false, false, false, false, false, false, false, false, false, false, false, false, false, false, false, false, false, false, false, false, false, false, false, false, false, false, false, false] rfl rfl (any_of HT_.out (by kernel_rfl)) (fun _ _ _ h => h) (Or.inl ⟨by rfl, ?_⟩) ?_ ?_
      rotate_left
      · intro w'
        go_simp
        with_reducible rfl
      rotate_left
      · simp only [Act.put, List.setIfInBounds_toArray, List.set_cons_zero, List.set_cons_succ, i64_w, i32_w]
        rfl
      refine pure_ (i := 1) (N := some 133) (v := ?_) (a' := ?_) #[true, true, false, false, false, false, false, false, false, false, false, false, false, false, false, false, false, false, false, false, false, false, false, false, false, false, false, false, false, false, false, false, false, false] rfl rfl (any_of HT_.out (by kernel_rfl)) (fun _ _ _ h => h) (Or.inl ⟨by rfl, ?_⟩) ?_ ?_
      rotate_left
      · intro w'
        go_simp
        with_reducible rfl
      rotate_left
      · simp only [Act.put, List.setIfInBounds_toArray, List.set_cons_zero, List.set_cons_succ, i64_w, i32_w]
        rfl
      refine pure_ (i := 2) (N := some 134) (v := ?_) (a' := ?_) #[true, true, true, false, false, false, false, false, false, false, false, false, false, false, false, false, false, false, false, false, false, false, false, false, false, false, false, false, false, false, false, false, false, false] rfl rfl (any_of HT_.out (by kernel_rfl)) (fun _ _ _ h => h) (Or.inl ⟨by rfl, ?_⟩) ?_ ?_
      rotate_left
      · intro w'
        go_simp
        with_reducible rfl
      rotate_left
      · simp only [Act.put, List.setIfInBounds_toArray, List.set_cons_zero, List.set_cons_succ, i64_w, i32_w]
        rfl
      refine pure_ (i := 3) (N := some 135) (v := ?_) (a' := ?_) #[true, true, true, true, false, false, false, false, false, false, false, false, false, false, false, false, false, false, false, false, false, false, false, false, false, false, false, false, false, false, false, false, false, false] rfl rfl (any_of HT_.out (by kernel_rfl)) (fun _ _ _ h => h) (Or.inl ⟨by rfl, ?_⟩) ?_ ?_
      rotate_left
      · intro w'
        go_simp
        with_reducible rfl
      rotate_left
      · simp only [Act.put, List.setIfInBounds_toArray, List.set_cons_zero, List.set_cons_succ, i64_w, i32_w]
        rfl
      refine pure_ (i := 4) (N := some 136) (v := ?_) (a' := ?_) #[true, true, true, true, true, false, false, false, false, false, false, false, false, false, false, false, false, false, false, false, false, false, false, false, false, false, false, false, false, false, false, false, false, false] rfl rfl (any_of HT_.out (by kernel_rfl)) (fun _ _ _ h => h) (Or.inl ⟨by rfl, ?_⟩) ?_ ?_
      rotate_left
      · intro w'
        go_simp
        with_reducible rfl
      rotate_left
      · simp only [Act.put, List.setIfInBounds_toArray, List.set_cons_zero, List.set_cons_succ, i64_w, i32_w]
        rfl
      refine pure_ (i := 5) (N := some 137) (v := ?_) (a' := ?_) #[true, true, true, true, true, true, false, false, false, false, false, false, false, false, false, false, false, false, false, false, false, false, false, false, false, false, false, false, false, false, false, false, false, false] rfl rfl (any_of HT_.out (by kernel_rfl)) (fun _ _ _ h => h) (Or.inl ⟨by rfl, ?_⟩) ?_ ?_
      rotate_left
      · intro w'
        go_simp
        with_reducible rfl
      rotate_left
      · simp only [Act.put, List.setIfInBounds_toArray, List.set_cons_zero, List.set_cons_succ, i64_w, i32_w]
        rfl
      refine pure_ (i := 6) (N := some 138) (v := ?_) (a' := ?_) #[true, true, true, true, true, true, true, false, false, false, false, false, false, false, false, false, false, false, false, false, false, false, false, false, false, false, false, false, false, false, false, false, false, false] rfl rfl (any_of HT_.out (by kernel_rfl)) (fun _ _ _ h => h) (Or.inl ⟨by rfl, ?_⟩) ?_ ?_
      rotate_left
      · intro w'
        go_simp
        with_reducible rfl
      rotate_left
      · simp only [Act.put, List.setIfInBounds_toArray, List.set_cons_zero, List.set_cons_succ, i64_w, i32_w]
        rfl
      refine pure_ (i := 7) (N := some 139) (v := ?_) (a' := ?_) #[true, true, true, true, true, true, true, true, false, false, false, false, false, false, false, false, false, false, false, false, false, false, false, false, false, false, false, false, false, false, false, false, false, false] rfl rfl (any_of HT_.out (by kernel_rfl)) (fun _ _ _ h => h) (Or.inl ⟨by rfl, ?_⟩) ?_ ?_
      rotate_left
      · intro w'
        go_simp
        with_reducible rfl
      rotate_left
      · simp only [Act.put, List.setIfInBounds_toArray, List.set_cons_zero, List.set_cons_succ, i64_w, i32_w]
        rfl
      refine one_ (i := 8) (N := some 140) #[true, true, true, true, true, true, true, true, true, false, false, false, false, false, false, false, false, false, false, false, false, false, false, false, false, false, false, false, false, false, false, false, false, false] rfl rfl (one_of HT_.out (by kernel_rfl)) (by decide) (fun K hK => ?_)
      refine goes_ Try.func36 (by kernel_rfl) rfl #[.slice A84 y462.length c84, .slice Ao23 t441.length co23] (by rfl) rfl rfl zT8 ?_
      with_reducible refine (laws_sameInts.calls kj13 _ _ y462 _ _ t441 true _ ?side1 ?side2 ?side3 ?side4 A69.out).mono ?_
      (case side1 => repeat (first | exact (by repeat (first | (with_reducible exact HR465.out) | (with_reducible refine Kd.C_alloc ?_ _) | (with_reducible refine Kd.C_drewN ?_ _) | (with_reducible refine Kd.C_drew ?_) | exact HR465.out)) | (with_reducible refine Kd.C_alloc ?_ _) | (with_reducible refine Kd.C_drewN ?_ _) | (with_reducible refine Kd.C_drew ?_)))
      (case side2 => exact HC465.out)
      (case side3 => repeat (first | exact (Kd.R_reads' HO_19.out).2.2 | (with_reducible refine Kd.C_alloc ?_ _) | (with_reducible refine Kd.C_drewN ?_ _) | (with_reducible refine Kd.C_drew ?_)))
      (case side4 => exact (Kd.R_reads' HO_19.out).2.1)
      rintro e w' ⟨rfl, ⟨nd, rfl⟩⟩
      refine ⟨_, rfl, ?_⟩
      have q86 : (t440 : Int) ≤ ((t446.length : Int) : Int) := zA8
      obtain ⟨i086, hi086, _, hsz86, _⟩ := info_parts info3
      have hroom86 : t446.length ≤ co85 := (Kd.R_reads' HO_20.out).2.1
      have hC86 : Kd.C (Kd.int .i64) _ Ao85 t446.length t446 := (Kd.R_reads' HO_20.out).2.2
      have hcut86 := cut_to (P := Try.prog) 25 3 .i64 Try.underlying25 hi086 Ao85 t446.length co85 t440 (zA8) q86 hroom86
      have hr86 := Kd.C_take (m := (t440 : Int).toNat) hC86 (by omega)
      have hy86 : y467.length = (t440 : Int).toNat := (by rw [Ny467.out, List.length_take]; omega)
      rw [← Ny467.out] at hr86
      rw [← hy86] at hcut86
      have HR470 := Aside0.mk hr86
      have HC470 := Aside0.mk (show y467.length ≤ co85 from by omega)
      clear hr86 hC86 hroom86 hi086 hsz86
      have KY86 := Aside0.mk hy86
      clear hy86
      have KL86 := Aside0.mk (show (t440 : Int).toNat ≤ t446.length from by omega)
      replace q86 := eq_true q86
      have q87 : (t440 : Int) ≤ ((t439.length : Int) : Int) := zA8
      obtain ⟨i087, hi087, _, hsz87, _⟩ := info_parts info3
      have hroom87 : t439.length ≤ co22 := (Kd.R_reads' HO_17.out).2.1
      have hC87 : Kd.C (Kd.int .i64) _ Ao22 t439.length t439 := (Kd.R_reads' HO_17.out).2.2
      have hcut87 := cut_to (P := Try.prog) 25 3 .i64 Try.underlying25 hi087 Ao22 t439.length co22 t440 (zA8) q87 hroom87
      have hr87 := Kd.C_take (m := (t440 : Int).toNat) hC87 (by omega)
      have hy87 : y471.length = (t440 : Int).toNat := (by rw [Ny471.out, List.length_take]; omega)
      rw [← Ny471.out] at hr87
      rw [← hy87] at hcut87
      have HR474 := Aside0.mk hr87
      have HC474 := Aside0.mk (show y471.length ≤ co22 from by omega)
      clear hr87 hC87 hroom87 hi087 hsz87
      have KY87 := Aside0.mk hy87
      clear hy87
      have KL87 := Aside0.mk (show (t440 : Int).toNat ≤ t439.length from by omega)
      replace q87 := eq_true q87
      refine hK.out _ _ trivial (fun hHeld => ?_)
      clear hK K
      refine norm_ (a' := ?_) ?_ ?_
      rotate_left
      · show Act.put _ (some 140) _ = _
        simp only [Act.put, List.setIfInBounds_toArray, List.set_cons_zero, List.set_cons_succ, i64_w, i32_w]
        rfl
      refine pure_ (i := 9) (N := some 141) (v := ?_) (a' := ?_) #[true, true, true, true, true, true, true, true, true, true, false, false, false, false, false, false, false, false, false, false, false, false, false, false, false, false, false, false, false, false, false, false, false, false] rfl rfl (any_of HT_.out (by kernel_rfl)) (fun _ _ _ h => h) (Or.inl ⟨by rfl, ?_⟩) ?_ ?_
      rotate_left
      · intro w'
        go_simp
        with_reducible rfl
      rotate_left
      · simp only [Act.put, List.setIfInBounds_toArray, List.set_cons_zero, List.set_cons_succ, i64_w, i32_w]
        rfl
      refine pure_ (i := 10) (N := some 142) (v := ?_) (a' := ?_) #[true, true, true, true, true, true, true, true, true, true, true, false, false, false, false, false, false, false, false, false, false, false, false, false, false, false, false, false, false, false, false, false, false, false] rfl rfl (any_of HT_.out (by kernel_rfl)) (fun _ _ _ h => h) (Or.inl ⟨by rfl, ?_⟩) ?_ ?_
      rotate_left
      · intro w'
        go_simp
        with_reducible rfl
      rotate_left
      · simp only [Act.put, List.setIfInBounds_toArray, List.set_cons_zero, List.set_cons_succ, i64_w, i32_w]
        rfl
      refine pure_ (i := 11) (N := some 143) (v := ?_) (a' := ?_) #[true, true, true, true, true, true, true, true, true, true, true, true, false, false, false, false, false, false, false, false, false, false, false, false, false, false, false, false, false, false, false, false, false, false] rfl rfl (any_of HT_.out (by kernel_rfl)) (fun _ _ _ h => h) (Or.inl ⟨by rfl, ?_⟩) ?_ ?_
      rotate_left
      · intro w'
        go_simp
        with_reducible rfl
      rotate_left
      · simp only [Act.put, List.setIfInBounds_toArray, List.set_cons_zero, List.set_cons_succ, i64_w, i32_w]
        rfl
      refine pure_ (i := 12) (N := some 144) (v := ?_) (a' := ?_) #[true, true, true, true, true, true, true, true, true, true, true, true, true, false, false, false, false, false, false, false, false, false, false, false, false, false, false, false, false, false, false, false, false, false] rfl rfl (any_of HT_.out (by kernel_rfl)) (fun _ _ _ h => h) (Or.inl ⟨by rfl, ?_⟩) ?_ ?_
      rotate_left
      · intro w'
        go_simp
        with_reducible rfl
      rotate_left
      · simp only [Act.put, List.setIfInBounds_toArray, List.set_cons_zero, List.set_cons_succ, i64_w, i32_w]
        rfl
      refine pure_ (i := 13) (N := some 145) (v := ?_) (a' := ?_) #[true, true, true, true, true, true, true, true, true, true, true, true, true, true, false, false, false, false, false, false, false, false, false, false, false, false, false, false, false, false, false, false, false, false] rfl rfl (any_of HT_.out (by kernel_rfl)) (fun _ _ _ h => h) (Or.inl ⟨by rfl, ?_⟩) ?_ ?_
      rotate_left
      · intro w'
        go_simp
        with_reducible rfl
      rotate_left
      · simp only [Act.put, List.setIfInBounds_toArray, List.set_cons_zero, List.set_cons_succ, i64_w, i32_w]
        rfl
      refine pure_ (i := 14) (N := some 146) (v := ?_) (a' := ?_) #[true, true, true, true, true, true, true, true, true, true, true, true, true, true, true, false, false, false, false, false, false, false, false, false, false, false, false, false, false, false, false, false, false, false] rfl rfl (any_of HT_.out (by kernel_rfl)) (fun _ _ _ h => h) (Or.inl ⟨by rfl, ?_⟩) ?_ ?_
      rotate_left
      · intro w'
        go_simp
        with_reducible rfl
      rotate_left
      · simp only [Act.put, List.setIfInBounds_toArray, List.set_cons_zero, List.set_cons_succ, i64_w, i32_w]
        rfl
      refine pure_ (i := 15) (N := some 147) (v := ?_) (a' := ?_) #[true, true, true, true, true, true, true, true, true, true, true, true, true, true, true, true, false, false, false, false, false, false, false, false, false, false, false, false, false, false, false, false, false, false] rfl rfl (any_of HT_.out (by kernel_rfl)) (fun _ _ _ h => h) (Or.inl ⟨by rfl, ?_⟩) ?_ ?_
      rotate_left
      · intro w'
        go_simp
        with_reducible rfl
      rotate_left
      · simp only [Act.put, List.setIfInBounds_toArray, List.set_cons_zero, List.set_cons_succ, i64_w, i32_w]
        rfl
      refine one_ (i := 16) (N := some 148) #[true, true, true, true, true, true, true, true, true, true, true, true, true, true, true, true, true, false, false, false, false, false, false, false, false, false, false, false, false, false, false, false, false, false] rfl rfl (one_of HT_.out (by kernel_rfl)) (by decide) (fun K hK => ?_)
      refine goes_ Try.func36 (by kernel_rfl) rfl #[.slice Ao85 y467.length co85, .slice Ao22 y471.length co22] (by rfl) rfl rfl zT8 ?_
      with_reducible refine (laws_sameInts.calls kj13 _ _ y467 _ _ y471 true _ ?side1 ?side2 ?side3 ?side4 A75.out).mono ?_
      (case side1 => repeat (first | exact (by repeat (first | (with_reducible exact HR470.out) | (with_reducible refine Kd.C_alloc ?_ _) | (with_reducible refine Kd.C_drewN ?_ _) | (with_reducible refine Kd.C_drew ?_) | exact HR470.out)) | (with_reducible refine Kd.C_alloc ?_ _) | (with_reducible refine Kd.C_drewN ?_ _) | (with_reducible refine Kd.C_drew ?_)))
      (case side2 => exact HC470.out)
      (case side3 => repeat (first | exact (by repeat (first | (with_reducible exact HR474.out) | (with_reducible refine Kd.C_alloc ?_ _) | (with_reducible refine Kd.C_drewN ?_ _) | (with_reducible refine Kd.C_drew ?_) | exact HR474.out)) | (with_reducible refine Kd.C_alloc ?_ _) | (with_reducible refine Kd.C_drewN ?_ _) | (with_reducible refine Kd.C_drew ?_)))
      (case side4 => exact HC474.out)
      rintro e w' ⟨rfl, ⟨nd, rfl⟩⟩
      refine ⟨_, rfl, ?_⟩
      have q88 : ((ji77) : Int) ≤ ((t446.length : Int) : Int) := zA8
      obtain ⟨i088, hi088, _, hsz88, _⟩ := info_parts info3
      have hroom88 : t446.length ≤ co85 := (Kd.R_reads' HO_20.out).2.1
      have hC88 : Kd.C (Kd.int .i64) _ Ao85 t446.length t446 := (Kd.R_reads' HO_20.out).2.2
      have q088 : (0 : Int) ≤ ((ji77) : Int) := zA8
      have hcut88 := cut_from (P := Try.prog) 25 3 .i64 Try.underlying25 hi088 1 hsz88 Ao85 t446.length co85 (ji77) q088 q88
      have hr88 := Kd.C_drop (m := ((ji77) : Int).toNat) (c := co85) hC88 (by omega) hroom88
      obtain ⟨A88, hA88⟩ : ∃ A1, A1 = (if co85 = ((ji77) : Int).toNat then Ao85 else (Ao85 : Option Addr).map (·.add (((ji77) : Int).toNat * 1))) := ⟨_, rfl⟩
      obtain ⟨c88, hc88⟩ : ∃ c1, c1 = co85 - ((ji77) : Int).toNat := ⟨_, rfl⟩
      have hy88 : y476.length = t446.length - ((ji77) : Int).toNat := (by rw [Ny476.out, List.length_drop] <;> omega)
      rw [show (t446).drop ((ji77) : Int).toNat = y476 from Ny476.out.symm] at hr88
      replace hr88 : Kd.C (Kd.int .i64) _ A88 y476.length y476 := (by rw [hA88]; exact hr88)
      rw [← hy88, ← hA88, ← hc88] at hcut88
      have HR479 := Aside0.mk hr88
      have HC479 := Aside0.mk (show y476.length ≤ c88 from by rw [hy88, hc88]; exact Nat.sub_le_sub_right hroom88 _)
      clear hr88 hC88 hroom88 hi088 hsz88 hc88
      have KY88 := Aside0.mk hy88
      have KA88 := Aside0.mk hA88
      clear hy88 hA88
      have KL88 := Aside0.mk (show ((ji77) : Int).toNat ≤ t446.length from by omega)
      replace q88 := eq_true q88
      have q89 : ((ji77) : Int) ≤ ((t439.length : Int) : Int) := zA8
      obtain ⟨i089, hi089, _, hsz89, _⟩ := info_parts info3
      have hroom89 : t439.length ≤ co22 := (Kd.R_reads' HO_17.out).2.1
      have hC89 : Kd.C (Kd.int .i64) _ Ao22 t439.length t439 := (Kd.R_reads' HO_17.out).2.2
      have q089 : (0 : Int) ≤ ((ji77) : Int) := zA8
      have hcut89 := cut_from (P := Try.prog) 25 3 .i64 Try.underlying25 hi089 1 hsz89 Ao22 t439.length co22 (ji77) q089 q89
      have hr89 := Kd.C_drop (m := ((ji77) : Int).toNat) (c := co22) hC89 (by omega) hroom89
      obtain ⟨A89, hA89⟩ : ∃ A1, A1 = (if co22 = ((ji77) : Int).toNat then Ao22 else (Ao22 : Option Addr).map (·.add (((ji77) : Int).toNat * 1))) := ⟨_, rfl⟩
      obtain ⟨c89, hc89⟩ : ∃ c1, c1 = co22 - ((ji77) : Int).toNat := ⟨_, rfl⟩
      have hy89 : y480.length = t439.length - ((ji77) : Int).toNat := (by rw [Ny480.out, List.length_drop] <;> omega)
      rw [show (t439).drop ((ji77) : Int).toNat = y480 from Ny480.out.symm] at hr89
      replace hr89 : Kd.C (Kd.int .i64) _ A89 y480.length y480 := (by rw [hA89]; exact hr89)
      rw [← hy89, ← hA89, ← hc89] at hcut89
      have HR483 := Aside0.mk hr89
      have HC483 := Aside0.mk (show y480.length ≤ c89 from by rw [hy89, hc89]; exact Nat.sub_le_sub_right hroom89 _)
      clear hr89 hC89 hroom89 hi089 hsz89 hc89
      have KY89 := Aside0.mk hy89
      have KA89 := Aside0.mk hA89
      clear hy89 hA89
      have KL89 := Aside0.mk (show ((ji77) : Int).toNat ≤ t439.length from by omega)
      replace q89 := eq_true q89
      refine hK.out _ _ trivial (fun hHeld => ?_)
      clear hK K
      refine norm_ (a' := ?_) ?_ ?_
      rotate_left
      · show Act.put _ (some 148) _ = _
        simp only [Act.put, List.setIfInBounds_toArray, List.set_cons_zero, List.set_cons_succ, i64_w, i32_w]
        rfl
      refine pure_ (i := 17) (N := some 149) (v := ?_) (a' := ?_) #[true, true, true, true, true, true, true, true, true, true, true, true, true, true, true, true, true, true, false, false, false, false, false, false, false, false, false, false, false, false, false, false, false, false] rfl rfl (any_of HT_.out (by kernel_rfl)) (fun _ _ _ h => h) (Or.inl ⟨by rfl, ?_⟩) ?_ ?_
      rotate_left
      · intro w'
        go_simp
        with_reducible rfl
      rotate_left
      · simp only [Act.put, List.setIfInBounds_toArray, List.set_cons_zero, List.set_cons_succ, i64_w, i32_w]
        rfl
      refine pure_ (i := 18) (N := some 150) (v := ?_) (a' := ?_) #[true, true, true, true, true, true, true, true, true, true, true, true, true, true, true, true, true, true, true, false, false, false, false, false, false, false, false, false, false, false, false, false, false, false] rfl rfl (any_of HT_.out (by kernel_rfl)) (fun _ _ _ h => h) (Or.inl ⟨by rfl, ?_⟩) ?_ ?_
      rotate_left
      · intro w'
        go_simp
        with_reducible rfl
      rotate_left
      · simp only [Act.put, List.setIfInBounds_toArray, List.set_cons_zero, List.set_cons_succ, i64_w, i32_w]
        rfl
      refine pure_ (i := 19) (N := some 151) (v := ?_) (a' := ?_) #[true, true, true, true, true, true, true, true, true, true, true, true, true, true, true, true, true, true, true, true, false, false, false, false, false, false, false, false, false, false, false, false, false, false] rfl rfl (any_of HT_.out (by kernel_rfl)) (fun _ _ _ h => h) (Or.inl ⟨by rfl, ?_⟩) ?_ ?_
      rotate_left
      · intro w'
        go_simp
        with_reducible rfl
      rotate_left
      · simp only [Act.put, List.setIfInBounds_toArray, List.set_cons_zero, List.set_cons_succ, i64_w, i32_w]
        rfl
      refine pure_ (i := 20) (N := some 152) (v := ?_) (a' := ?_) #[true, true, true, true, true, true, true, true, true, true, true, true, true, true, true, true, true, true, true, true, true, false, false, false, false, false, false, false, false, false, false, false, false, false] rfl rfl (any_of HT_.out (by kernel_rfl)) (fun _ _ _ h => h) (Or.inl ⟨by rfl, ?_⟩) ?_ ?_
      rotate_left
      · intro w'
        go_simp
        with_reducible rfl
      rotate_left
      · simp only [Act.put, List.setIfInBounds_toArray, List.set_cons_zero, List.set_cons_succ, i64_w, i32_w]
        rfl
      refine pure_ (i := 21) (N := some 153) (v := ?_) (a' := ?_) #[true, true, true, true, true, true, true, true, true, true, true, true, true, true, true, true, true, true, true, true, true, true, false, false, false, false, false, false, false, false, false, false, false, false] rfl rfl (any_of HT_.out (by kernel_rfl)) (fun _ _ _ h => h) (Or.inl ⟨by rfl, ?_⟩) ?_ ?_
      rotate_left
      · intro w'
        go_simp
        with_reducible rfl
      rotate_left
      · simp only [Act.put, List.setIfInBounds_toArray, List.set_cons_zero, List.set_cons_succ, i64_w, i32_w]
        rfl
      refine pure_ (i := 22) (N := some 154) (v := ?_) (a' := ?_) #[true, true, true, true, true, true, true, true, true, true, true, true, true, true, true, true, true, true, true, true, true, true, true, false, false, false, false, false, false, false, false, false, false, false] rfl rfl (any_of HT_.out (by kernel_rfl)) (fun _ _ _ h => h) (Or.inl ⟨by rfl, ?_⟩) ?_ ?_
      rotate_left
      · intro w'
        go_simp
        with_reducible rfl
      rotate_left
      · simp only [Act.put, List.setIfInBounds_toArray, List.set_cons_zero, List.set_cons_succ, i64_w, i32_w]
        rfl
      refine pure_ (i := 23) (N := some 155) (v := ?_) (a' := ?_) #[true, true, true, true, true, true, true, true, true, true, true, true, true, true, true, true, true, true, true, true, true, true, true, true, false, false, false, false, false, false, false, false, false, false] rfl rfl (any_of HT_.out (by kernel_rfl)) (fun _ _ _ h => h) (Or.inl ⟨by rfl, ?_⟩) ?_ ?_
      rotate_left
      · intro w'
        go_simp
        with_reducible rfl
      rotate_left
      · simp only [Act.put, List.setIfInBounds_toArray, List.set_cons_zero, List.set_cons_succ, i64_w, i32_w]
        rfl
      refine pure_ (i := 24) (N := some 156) (v := ?_) (a' := ?_) #[true, true, true, true, true, true, true, true, true, true, true, true, true, true, true, true, true, true, true, true, true, true, true, true, true, false, false, false, false, false, false, false, false, false] rfl rfl (any_of HT_.out (by kernel_rfl)) (fun _ _ _ h => h) (Or.inl ⟨by rfl, ?_⟩) ?_ ?_
      rotate_left
      · intro w'
        go_simp
        with_reducible rfl
      rotate_left
      · simp only [Act.put, List.setIfInBounds_toArray, List.set_cons_zero, List.set_cons_succ, i64_w, i32_w]
        rfl
      refine pure_ (i := 25) (N := some 157) (v := ?_) (a' := ?_) #[true, true, true, true, true, true, true, true, true, true, true, true, true, true, true, true, true, true, true, true, true, true, true, true, true, true, false, false, false, false, false, false, false, false] rfl rfl (any_of HT_.out (by kernel_rfl)) (fun _ _ _ h => h) (Or.inl ⟨by rfl, ?_⟩) ?_ ?_
      rotate_left
      · intro w'
        go_simp
        with_reducible rfl
      rotate_left
      · simp only [Act.put, List.setIfInBounds_toArray, List.set_cons_zero, List.set_cons_succ, i64_w, i32_w]
        rfl
      refine pure_ (i := 26) (N := some 158) (v := ?_) (a' := ?_) #[true, true, true, true, true, true, true, true, true, true, true, true, true, true, true, true, true, true, true, true, true, true, true, true, true, true, true, false, false, false, false, false, false, false] rfl rfl (any_of HT_.out (by kernel_rfl)) (fun _ _ _ h => h) (Or.inl ⟨by rfl, ?_⟩) ?_ ?_
      rotate_left
      · intro w'
        go_simp
        with_reducible rfl
      rotate_left
      · simp only [Act.put, List.setIfInBounds_toArray, List.set_cons_zero, List.set_cons_succ, i64_w, i32_w]
        rfl
      refine pure_ (i := 27) (N := some 159) (v := ?_) (a' := ?_) #[true, true, true, true, true, true, true, true, true, true, true, true, true, true, true, true, true, true, true, true, true, true, true, true, true, true, true, true, false, false, false, false, false, false] rfl rfl (any_of HT_.out (by kernel_rfl)) (fun _ _ _ h => h) (Or.inl ⟨by rfl, ?_⟩) ?_ ?_
      rotate_left
      · intro w'
        go_simp
        with_reducible rfl
      rotate_left
      · simp only [Act.put, List.setIfInBounds_toArray, List.set_cons_zero, List.set_cons_succ, i64_w, i32_w]
        rfl
      refine pure_ (i := 28) (N := some 160) (v := ?_) (a' := ?_) #[true, true, true, true, true, true, true, true, true, true, true, true, true, true, true, true, true, true, true, true, true, true, true, true, true, true, true, true, true, false, false, false, false, false] rfl rfl (any_of HT_.out (by kernel_rfl)) (fun _ _ _ h => h) (Or.inl ⟨by rfl, ?_⟩) ?_ ?_
      rotate_left
      · intro w'
        go_simp
        with_reducible rfl
      rotate_left
      · simp only [Act.put, List.setIfInBounds_toArray, List.set_cons_zero, List.set_cons_succ, i64_w, i32_w]
        rfl
      refine pure_ (i := 29) (N := some 161) (v := ?_) (a' := ?_) #[true, true, true, true, true, true, true, true, true, true, true, true, true, true, true, true, true, true, true, true, true, true, true, true, true, true, true, true, true, true, false, false, false, false] rfl rfl (any_of HT_.out (by kernel_rfl)) (fun _ _ _ h => h) (Or.inl ⟨by rfl, ?_⟩) ?_ ?_
      rotate_left
      · intro w'
        go_simp
        with_reducible rfl
      rotate_left
      · simp only [Act.put, List.setIfInBounds_toArray, List.set_cons_zero, List.set_cons_succ, i64_w, i32_w]
        rfl
      refine pure_ (i := 30) (N := some 162) (v := ?_) (a' := ?_) #[true, true, true, true, true, true, true, true, true, true, true, true, true, true, true, true, true, true, true, true, true, true, true, true, true, true, true, true, true, true, true, false, false, false] rfl rfl (any_of HT_.out (by kernel_rfl)) (fun _ _ _ h => h) (Or.inl ⟨by rfl, ?_⟩) ?_ ?_
      rotate_left
      · intro w'
        go_simp
        with_reducible rfl
      rotate_left
      · simp only [Act.put, List.setIfInBounds_toArray, List.set_cons_zero, List.set_cons_succ, i64_w, i32_w]
        rfl
      refine one_ (i := 31) (N := some 163) #[true, true, true, true, true, true, true, true, true, true, true, true, true, true, true, true, true, true, true, true, true, true, true, true, true, true, true, true, true, true, true, true, false, false] rfl rfl (one_of HT_.out (by kernel_rfl)) (by decide) (fun K hK => ?_)
      refine goes_ Try.func36 (by kernel_rfl) rfl #[.slice A88 y476.length c88, .slice A89 y480.length c89] (by rfl) rfl rfl zT8 ?_
      with_reducible refine (laws_sameInts.calls kj13 _ _ y476 _ _ y480 t484 _ ?side1 ?side2 ?side3 ?side4 A82.out).mono ?_
      (case side1 => repeat (first | exact (by repeat (first | (with_reducible exact HR479.out) | (with_reducible refine Kd.C_alloc ?_ _) | (with_reducible refine Kd.C_drewN ?_ _) | (with_reducible refine Kd.C_drew ?_) | exact HR479.out)) | (with_reducible refine Kd.C_alloc ?_ _) | (with_reducible refine Kd.C_drewN ?_ _) | (with_reducible refine Kd.C_drew ?_)))
      (case side2 => exact HC479.out)
      (case side3 => repeat (first | exact (by repeat (first | (with_reducible exact HR483.out) | (with_reducible refine Kd.C_alloc ?_ _) | (with_reducible refine Kd.C_drewN ?_ _) | (with_reducible refine Kd.C_drew ?_) | exact HR483.out)) | (with_reducible refine Kd.C_alloc ?_ _) | (with_reducible refine Kd.C_drewN ?_ _) | (with_reducible refine Kd.C_drew ?_)))
      (case side4 => exact HC483.out)
      rintro e w' ⟨rfl, ⟨nd, rfl⟩⟩
      refine ⟨_, rfl, ?_⟩
      refine hK.out _ _ trivial (fun hHeld => ?_)
      clear hK K
      refine norm_ (a' := ?_) ?_ ?_
      rotate_left
      · show Act.put _ (some 163) _ = _
        simp only [Act.put, List.setIfInBounds_toArray, List.set_cons_zero, List.set_cons_succ, i64_w, i32_w]
        rfl
      refine pure_ (i := 32) (N := some 164) (v := ?_) (a' := ?_) #[true, true, true, true, true, true, true, true, true, true, true, true, true, true, true, true, true, true, true, true, true, true, true, true, true, true, true, true, true, true, true, true, true, false] rfl rfl (any_of HT_.out (by kernel_rfl)) (fun _ _ _ h => h) (Or.inl ⟨by rfl, ?_⟩) ?_ ?_
      rotate_left
      · intro w'
        go_simp
        with_reducible rfl
      rotate_left
      · simp only [Act.put, List.setIfInBounds_toArray, List.set_cons_zero, List.set_cons_succ, i64_w, i32_w]
        rfl
      refine pure_ (i := 33) (N := some 2) (v := ?_) (a' := ?_) #[true, true, true, true, true, true, true, true, true, true, true, true, true, true, true, true, true, true, true, true, true, true, true, true, true, true, true, true, true, true, true, true, true, true] rfl rfl (any_of HT_.out (by kernel_rfl)) (fun _ _ _ h => h) (Or.inl ⟨by rfl, ?_⟩) ?_ ?_
      rotate_left
      · intro w'
        go_simp
        with_reducible rfl
      rotate_left
      · simp only [Act.put, List.setIfInBounds_toArray, List.set_cons_zero, List.set_cons_succ, i64_w, i32_w]
        rfl
      refine done_ (done_of HT_.out (by kernel_rfl)) ?_
      try go_wp2
      go_ret
      exact ⟨by first | rfl | (simp [errW_none, errW_some] <;> rfl) | (simp only [← hji77]; first | rfl | (simp [errW_none, errW_some] <;> rfl)) | (simp [*, errW_none, errW_some] <;> rfl), zB8_0⟩

/-- THE ONE PURE STATEMENT of laws_FnPlaced: yours. -/
def laws_FnPlaced.Pure : Prop := ∀ (l0 : List Int), l0.length ≤ maxLen → l0.length * 1 ≤ 140737488351232 → (∀ x ∈ l0, (Lit.int .u8 x).wf = true) → ∃ k, laws_FnPlaced.f k l0 = some true
theorem laws_FnPlaced.walk (P : laws_FnPlaced.Pure) (a0 : Option Addr) (len0 cap0 : Nat) (z0 : List Int) (w : World) (w0 : (a0 = none ∧ len0 = 0 ∧ cap0 = 0 ∧ z0 = []) ∨ ∃ x, a0 = some x ∧ len0 ≤ cap0 ∧ cap0 ≤ maxLen ∧ z0.length = cap0 ∧ (∀ i, i < z0.length → w.cell? (x.add i) = some (.int .u8 (z0.getD i 0))) ∧ ∀ n ∈ z0, (Lit.int .u8 n).wf = true) (y0 : len0 * 1 ≤ 140737488351232) :
    Calls Try.prog 10 #[.slice a0 len0 cap0] w fun e w' => e = .returned (.bool true) ∧ Below w.heap.size w w' := by
  obtain ⟨l0, rfl, hr0, hm0, hw0, hc0⟩ := ReadsInt.ofRowC w0
  obtain ⟨k, h⟩ := P l0 hm0 y0 hw0
  refine (laws_FnPlaced.calls k _ _ l0 true w (Kd.C_of_reads (d := (0 : Int)) (h1 := fun _ => rfl) hr0) hc0 h).mono ?_
  rintro e w' ⟨rfl, hd⟩
  exact ⟨rfl, hd⟩

end Go.Proofs.Ytddncenhddiemaa.PFnPlaced
