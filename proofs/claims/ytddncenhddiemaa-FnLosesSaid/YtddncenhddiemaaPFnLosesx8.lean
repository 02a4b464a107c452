-- made by wip/tools/myprint.py out of the seat's translation
import Derived.Test.YtddncenhddiemaaPFnLosesx0
import Derived.Test.YtddncenhddiemaaPFnLosesx2
import Derived.Test.YtddncenhddiemaaPFnLosesx6
import Derived.Test.YtddncenhddiemaaPFnLosesx7
namespace Go.Proofs.Ytddncenhddiemaa.PFnLoses
open Go.RowKit Go.Proofs.YtddncenhddiemaaW.PrintWords Go.Proofs.YtddncenhddiemaaW.PrintLast Go.Proofs.YtddncenhddiemaaW.PrintMore
attribute [local go_sem] max2_int min2_int max_two min_two max_three min_three max_four min_four   -- for this text's walks alone
set_option linter.unusedVariables false
set_option linter.unusedSimpArgs false
theorem zR8 {p q : Prop} (x : q) (h : q → p := by intro h; (with_reducible repeat (first | apply Kd.R_alloc | apply Kd.R_drewN | apply Kd.R_drew)); exact h) : p := h x
theorem zA8 {p : Prop} [Decidable p] (h : decide p = true := by first | (with_reducible assumption) | assumption) : p := of_decide_eq_true h
theorem zT8 {p : Prop} (h : p := by (try simp only [List.map_toArray, List.map_cons, List.map_nil]); first | done | rfl | (simp only [List.length_drop, List.length_take]; rfl)) : p := h
theorem zC8 {p q : Prop} (x : q) (h : q → p := by intro h; repeat (first | exact h | (with_reducible refine Kd.C_alloc ?_ _) | (with_reducible refine Kd.C_drewN ?_ _) | (with_reducible refine Kd.C_drew ?_))) : p := h x
theorem zE8 {p : Prop} (h : p := by first | rfl | (simp [errW_none, errW_some] <;> rfl) | (simp [*, errW_none, errW_some] <;> rfl)) : p := h
theorem zB8_0 {p : Prop} (h : p := by repeat (first | (with_reducible first | exact HB.out | apply below_alloc | apply pw_below_drewN | apply below_drew1) | exact HB.out)) : p := h

/-! ### laws_FnLoses: function 4 -/
mutual
def laws_FnLoses.j0 : Nat → List Int → Int → Int → List Int → Bool → Option (Bool)
  | 0, _, _, _, _, _ => none
  | k + 1, x0, x3, x4, x5, x45 => if x45 = true then (some false) else (if 24 ≤ 35184372088832 then ((impl_Place.f k (List.replicate 24 0) 3 x5).bind fun bt300 => (if bt300.2 = true then (laws_FnLoses.l0 k x0 x3 x4 bt300.1 (([] : List (S31))) 0) else (some false))) else (none))
def laws_FnLoses.l0 : Nat → List Int → Int → Int → List Int → List (S31) → Int → Option (Bool)
  | 0, _, _, _, _, _, _ => none
  | k + 1, x0, x3, x4, x9, x11, x12 => if x12 < x4 then ((impl_HartNew.f 3).bind fun bt307 => (if x11.length < 3518437208883 then (laws_FnLoses.l0 k x0 x3 x4 x9 (x11 ++ [(⟨bt307.1, bt307.2.1, bt307.2.2⟩ : S31)]) (wrap64 (x12 + 1))) else (none))) else (laws_FnLoses.l1 k x0 x3 x4 x9 x11 (([] : List Int)) 0)
def laws_FnLoses.l1 : Nat → List Int → Int → Int → List Int → List (S31) → List Int → Int → Option (Bool)
  | 0, _, _, _, _, _, _, _ => none
  | k + 1, x0, x3, x4, x9, x11, x13, x14 => if x14 < 60 then ((laws_at.f x0 (wrap64 (x14 + 3))).bind fun t318 => (if x4 = 0 then (none) else (if x13.length < 17592186044416 then (laws_FnLoses.l1 k x0 x3 x4 x9 x11 (x13 ++ [Int.tmod t318 x4]) (wrap64 (x14 + 1))) else (none)))) else (laws_FnLoses.l2 k x3 x4 x9 x11 x13 0)
def laws_FnLoses.l2 : Nat → Int → Int → List Int → List (S31) → List Int → Int → Option (Bool)
  | 0, _, _, _, _, _, _ => none
  | k + 1, x3, x4, x9, x11, x13, x15 => if x15 < 60 then (laws_FnLoses.l3 k x3 x4 x9 x11 x13 x15 0) else ((impl_FlatRun.f k x9 x11 x13).bind fun bt325 => ((impl_AllHalt.f k bt325.2).bind fun t331 => (if t331 = true then (if 20 < (bt325.1.length : Int) then (if (rd bt325.1 20) ≥ 1 then (if (rd bt325.1 20) ≤ (wrap64 (x4 * x3)) then (if x4 > 1 then (some true) else (some ((rd bt325.1 20) == x3))) else (some false)) else (some false)) else (none)) else (some false))))
def laws_FnLoses.l3 : Nat → Int → Int → List Int → List (S31) → List Int → Int → Int → Option (Bool)
  | 0, _, _, _, _, _, _, _ => none
  | k + 1, x3, x4, x9, x11, x13, x15, x16 => if x16 < x4 then (if x13.length < 17592186044416 then (laws_FnLoses.l3 k x3 x4 x9 x11 (x13 ++ [x16]) x15 (wrap64 (x16 + 1))) else (none)) else (laws_FnLoses.l2 k x3 x4 x9 x11 x13 (wrap64 (x15 + 1)))
end
def laws_FnLoses.f (k : Nat) (l0 : List Int) : Option (Bool) := (laws_big.f l0).bind fun t286 => (if t286 = true then (some true) else ((laws_at.f l0 1).bind fun t287 => ((laws_at.f l0 2).bind fun t288 => ((impl_LoseCode.f k 20 (wrap64 (1 + (Int.tmod t287 5))) 3).bind fun bt289 => ((spec_LoseCode.f k 20 (wrap64 (1 + (Int.tmod t287 5))) 3).bind fun bt293 => (if (bt289.2 != bt293.2) = true then (laws_FnLoses.j0 k l0 (wrap64 (1 + (Int.tmod t287 5))) (wrap64 (1 + (Int.tmod t288 3))) bt289.1 true) else (laws_FnLoses.j0 k l0 (wrap64 (1 + (Int.tmod t287 5))) (wrap64 (1 + (Int.tmod t288 3))) bt289.1 (!bt289.2))))))))
theorem laws_FnLoses.mono_l : ∀ k, (∀ y0 y1 y2 y3 y4, LeO (laws_FnLoses.j0 k y0 y1 y2 y3 y4) (laws_FnLoses.j0 (k + 1) y0 y1 y2 y3 y4)) ∧ (∀ y0 y1 y2 y3 y4 y5, LeO (laws_FnLoses.l0 k y0 y1 y2 y3 y4 y5) (laws_FnLoses.l0 (k + 1) y0 y1 y2 y3 y4 y5)) ∧ (∀ y0 y1 y2 y3 y4 y5 y6, LeO (laws_FnLoses.l1 k y0 y1 y2 y3 y4 y5 y6) (laws_FnLoses.l1 (k + 1) y0 y1 y2 y3 y4 y5 y6)) ∧ (∀ y0 y1 y2 y3 y4 y5, LeO (laws_FnLoses.l2 k y0 y1 y2 y3 y4 y5) (laws_FnLoses.l2 (k + 1) y0 y1 y2 y3 y4 y5)) ∧ (∀ y0 y1 y2 y3 y4 y5 y6, LeO (laws_FnLoses.l3 k y0 y1 y2 y3 y4 y5 y6) (laws_FnLoses.l3 (k + 1) y0 y1 y2 y3 y4 y5 y6))
  | 0 => ⟨fun _ _ _ _ _ r h => by simp [laws_FnLoses.j0] at h, fun _ _ _ _ _ _ r h => by simp [laws_FnLoses.l0] at h, fun _ _ _ _ _ _ _ r h => by simp [laws_FnLoses.l1] at h, fun _ _ _ _ _ _ r h => by simp [laws_FnLoses.l2] at h, fun _ _ _ _ _ _ _ r h => by simp [laws_FnLoses.l3] at h⟩
  | k + 1 => by
    obtain ⟨ih0, ih1, ih2, ih3, ih4⟩ := laws_FnLoses.mono_l k
    refine ⟨?_, ?_, ?_, ?_, ?_⟩
    · intro y0 y1 y2 y3 y4
      unfold laws_FnLoses.j0
      repeat' first
      | (with_reducible exact ih0 _ _ _ _ _)
      | (with_reducible exact ih1 _ _ _ _ _ _)
      | (with_reducible exact ih2 _ _ _ _ _ _ _)
      | (with_reducible exact ih3 _ _ _ _ _ _)
      | (with_reducible exact ih4 _ _ _ _ _ _ _)
      | (with_reducible exact impl_AllHalt.mono _ _)
      | (with_reducible exact impl_FlatRun.mono _ _ _ _)
      | (with_reducible exact impl_LoseCode.mono _ _ _ _)
      | (with_reducible exact impl_Place.mono _ _ _ _)
      | (with_reducible exact spec_LoseCode.mono _ _ _ _)
      | (with_reducible exact LeO.refl _)
      | (with_reducible exact LeO.none _)
      | (with_reducible refine LeO.ite ?_ ?_)
      | (with_reducible refine LeO.bind ?_ (fun _ => ?_))
      | exact ih0 _ _ _ _ _
      | exact ih1 _ _ _ _ _ _
      | exact ih2 _ _ _ _ _ _ _
      | exact ih3 _ _ _ _ _ _
      | exact ih4 _ _ _ _ _ _ _
      | exact impl_AllHalt.mono _ _
      | exact impl_FlatRun.mono _ _ _ _
      | exact impl_LoseCode.mono _ _ _ _
      | exact impl_Place.mono _ _ _ _
      | exact spec_LoseCode.mono _ _ _ _
      | exact LeO.none _
      | refine LeO.ite ?_ ?_
      | refine LeO.bind ?_ (fun _ => ?_)
    · intro y0 y1 y2 y3 y4 y5
      unfold laws_FnLoses.l0
      repeat' first
      | (with_reducible exact ih0 _ _ _ _ _)
      | (with_reducible exact ih1 _ _ _ _ _ _)
      | (with_reducible exact ih2 _ _ _ _ _ _ _)
      | (with_reducible exact ih3 _ _ _ _ _ _)
      | (with_reducible exact ih4 _ _ _ _ _ _ _)
      | (with_reducible exact impl_AllHalt.mono _ _)
      | (with_reducible exact impl_FlatRun.mono _ _ _ _)
      | (with_reducible exact impl_LoseCode.mono _ _ _ _)
      | (with_reducible exact impl_Place.mono _ _ _ _)
      | (with_reducible exact spec_LoseCode.mono _ _ _ _)
      | (with_reducible exact LeO.refl _)
      | (with_reducible exact LeO.none _)
      | (with_reducible refine LeO.ite ?_ ?_)
      | (with_reducible refine LeO.bind ?_ (fun _ => ?_))
      | exact ih0 _ _ _ _ _
      | exact ih1 _ _ _ _ _ _
      | exact ih2 _ _ _ _ _ _ _
      | exact ih3 _ _ _ _ _ _
      | exact ih4 _ _ _ _ _ _ _
      | exact impl_AllHalt.mono _ _
      | exact impl_FlatRun.mono _ _ _ _
      | exact impl_LoseCode.mono _ _ _ _
      | exact impl_Place.mono _ _ _ _
      | exact spec_LoseCode.mono _ _ _ _
      | exact LeO.none _
      | refine LeO.ite ?_ ?_
      | refine LeO.bind ?_ (fun _ => ?_)
    · intro y0 y1 y2 y3 y4 y5 y6
      unfold laws_FnLoses.l1
      repeat' first
      | (with_reducible exact ih0 _ _ _ _ _)
      | (with_reducible exact ih1 _ _ _ _ _ _)
      | (with_reducible exact ih2 _ _ _ _ _ _ _)
      | (with_reducible exact ih3 _ _ _ _ _ _)
      | (with_reducible exact ih4 _ _ _ _ _ _ _)
      | (with_reducible exact impl_AllHalt.mono _ _)
      | (with_reducible exact impl_FlatRun.mono _ _ _ _)
      | (with_reducible exact impl_LoseCode.mono _ _ _ _)
      | (with_reducible exact impl_Place.mono _ _ _ _)
      | (with_reducible exact spec_LoseCode.mono _ _ _ _)
      | (with_reducible exact LeO.refl _)
      | (with_reducible exact LeO.none _)
      | (with_reducible refine LeO.ite ?_ ?_)
      | (with_reducible refine LeO.bind ?_ (fun _ => ?_))
      | exact ih0 _ _ _ _ _
      | exact ih1 _ _ _ _ _ _
      | exact ih2 _ _ _ _ _ _ _
      | exact ih3 _ _ _ _ _ _
      | exact ih4 _ _ _ _ _ _ _
      | exact impl_AllHalt.mono _ _
      | exact impl_FlatRun.mono _ _ _ _
      | exact impl_LoseCode.mono _ _ _ _
      | exact impl_Place.mono _ _ _ _
      | exact spec_LoseCode.mono _ _ _ _
      | exact LeO.none _
      | refine LeO.ite ?_ ?_
      | refine LeO.bind ?_ (fun _ => ?_)
    · intro y0 y1 y2 y3 y4 y5
      unfold laws_FnLoses.l2
      repeat' first
      | (with_reducible exact ih0 _ _ _ _ _)
      | (with_reducible exact ih1 _ _ _ _ _ _)
      | (with_reducible exact ih2 _ _ _ _ _ _ _)
      | (with_reducible exact ih3 _ _ _ _ _ _)
      | (with_reducible exact ih4 _ _ _ _ _ _ _)
      | (with_reducible exact impl_AllHalt.mono _ _)
      | (with_reducible exact impl_FlatRun.mono _ _ _ _)
      | (with_reducible exact impl_LoseCode.mono _ _ _ _)
      | (with_reducible exact impl_Place.mono _ _ _ _)
      | (with_reducible exact spec_LoseCode.mono _ _ _ _)
      | (with_reducible exact LeO.refl _)
      | (with_reducible exact LeO.none _)
      | (with_reducible refine LeO.ite ?_ ?_)
      | (with_reducible refine LeO.bind ?_ (fun _ => ?_))
      | exact ih0 _ _ _ _ _
      | exact ih1 _ _ _ _ _ _
      | exact ih2 _ _ _ _ _ _ _
      | exact ih3 _ _ _ _ _ _
      | exact ih4 _ _ _ _ _ _ _
      | exact impl_AllHalt.mono _ _
      | exact impl_FlatRun.mono _ _ _ _
      | exact impl_LoseCode.mono _ _ _ _
      | exact impl_Place.mono _ _ _ _
      | exact spec_LoseCode.mono _ _ _ _
      | exact LeO.none _
      | refine LeO.ite ?_ ?_
      | refine LeO.bind ?_ (fun _ => ?_)
    · intro y0 y1 y2 y3 y4 y5 y6
      unfold laws_FnLoses.l3
      repeat' first
      | (with_reducible exact ih0 _ _ _ _ _)
      | (with_reducible exact ih1 _ _ _ _ _ _)
      | (with_reducible exact ih2 _ _ _ _ _ _ _)
      | (with_reducible exact ih3 _ _ _ _ _ _)
      | (with_reducible exact ih4 _ _ _ _ _ _ _)
      | (with_reducible exact impl_AllHalt.mono _ _)
      | (with_reducible exact impl_FlatRun.mono _ _ _ _)
      | (with_reducible exact impl_LoseCode.mono _ _ _ _)
      | (with_reducible exact impl_Place.mono _ _ _ _)
      | (with_reducible exact spec_LoseCode.mono _ _ _ _)
      | (with_reducible exact LeO.refl _)
      | (with_reducible exact LeO.none _)
      | (with_reducible refine LeO.ite ?_ ?_)
      | (with_reducible refine LeO.bind ?_ (fun _ => ?_))
      | exact ih0 _ _ _ _ _
      | exact ih1 _ _ _ _ _ _
      | exact ih2 _ _ _ _ _ _ _
      | exact ih3 _ _ _ _ _ _
      | exact ih4 _ _ _ _ _ _ _
      | exact impl_AllHalt.mono _ _
      | exact impl_FlatRun.mono _ _ _ _
      | exact impl_LoseCode.mono _ _ _ _
      | exact impl_Place.mono _ _ _ _
      | exact spec_LoseCode.mono _ _ _ _
      | exact LeO.none _
      | refine LeO.ite ?_ ?_
      | refine LeO.bind ?_ (fun _ => ?_)
theorem laws_FnLoses.mono : ∀ a0 k, LeO (laws_FnLoses.f k a0) (laws_FnLoses.f (k + 1) a0) := by
  intro a0 k
  obtain ⟨ih0, ih1, ih2, ih3, ih4⟩ := laws_FnLoses.mono_l k
  unfold laws_FnLoses.f
  repeat' first
      | (with_reducible exact ih0 _ _ _ _ _)
      | (with_reducible exact ih1 _ _ _ _ _ _)
      | (with_reducible exact ih2 _ _ _ _ _ _ _)
      | (with_reducible exact ih3 _ _ _ _ _ _)
      | (with_reducible exact ih4 _ _ _ _ _ _ _)
      | (with_reducible exact impl_AllHalt.mono _ _)
      | (with_reducible exact impl_FlatRun.mono _ _ _ _)
      | (with_reducible exact impl_LoseCode.mono _ _ _ _)
      | (with_reducible exact impl_Place.mono _ _ _ _)
      | (with_reducible exact spec_LoseCode.mono _ _ _ _)
      | (with_reducible exact LeO.refl _)
      | (with_reducible exact LeO.none _)
      | (with_reducible refine LeO.ite ?_ ?_)
      | (with_reducible refine LeO.bind ?_ (fun _ => ?_))
      | exact ih0 _ _ _ _ _
      | exact ih1 _ _ _ _ _ _
      | exact ih2 _ _ _ _ _ _ _
      | exact ih3 _ _ _ _ _ _
      | exact ih4 _ _ _ _ _ _ _
      | exact impl_AllHalt.mono _ _
      | exact impl_FlatRun.mono _ _ _ _
      | exact impl_LoseCode.mono _ _ _ _
      | exact impl_Place.mono _ _ _ _
      | exact spec_LoseCode.mono _ _ _ _
      | exact LeO.none _
      | refine LeO.ite ?_ ?_
      | refine LeO.bind ?_ (fun _ => ?_)
set_option maxHeartbeats 8000000 in
set_option maxRecDepth 100000 in
theorem laws_FnLoses.calls (k : Nat) (A0 : Option Addr) (c0 : Nat) (l0 : List Int) (r : Bool) (w : World) (hr0 : Kd.C (Kd.int .u8) w A0 l0.length l0) (hc0 : l0.length ≤ c0) (h : laws_FnLoses.f k l0 = some r) :
    Calls Try.prog 4 #[.slice A0 l0.length c0] w fun e w' => e = .returned (.bool r) ∧ Below w.heap.size w w' := by
  have HR0 := Aside0.mk hr0
  have HC0 := Aside0.mk hc0
  clear hr0 hc0
  have HB := Aside0.mk (Below.refl w.heap.size w)
  have H : ((laws_big.f l0).bind fun t286 => (if t286 = true then (some true) else ((laws_at.f l0 1).bind fun t287 => ((laws_at.f l0 2).bind fun t288 => ((impl_LoseCode.f k 20 (wrap64 (1 + (Int.tmod t287 5))) 3).bind fun bt289 => ((spec_LoseCode.f k 20 (wrap64 (1 + (Int.tmod t287 5))) 3).bind fun bt293 => (if (bt289.2 != bt293.2) = true then (laws_FnLoses.j0 k l0 (wrap64 (1 + (Int.tmod t287 5))) (wrap64 (1 + (Int.tmod t288 3))) bt289.1 true) else (laws_FnLoses.j0 k l0 (wrap64 (1 + (Int.tmod t287 5))) (wrap64 (1 + (Int.tmod t288 3))) bt289.1 (!bt289.2))))))))) = some r := h
  clear h
  replace H := Option.bind_eq_some_iff.mp H
  obtain ⟨t286, A20, H⟩ := H
  replace H : (if t286 = true then (some true) else ((laws_at.f l0 1).bind fun t287 => ((laws_at.f l0 2).bind fun t288 => ((impl_LoseCode.f k 20 (wrap64 (1 + (Int.tmod t287 5))) 3).bind fun bt289 => ((spec_LoseCode.f k 20 (wrap64 (1 + (Int.tmod t287 5))) 3).bind fun bt293 => (if (bt289.2 != bt293.2) = true then (laws_FnLoses.j0 k l0 (wrap64 (1 + (Int.tmod t287 5))) (wrap64 (1 + (Int.tmod t288 3))) bt289.1 true) else (laws_FnLoses.j0 k l0 (wrap64 (1 + (Int.tmod t287 5))) (wrap64 (1 + (Int.tmod t288 3))) bt289.1 (!bt289.2)))))))) = some r := H
  have A2 := Aside0.mk A20
  clear A20
  by_cases c3 : t286 = true
  · subst c3
    have H1 : (some true) = some r := by rw [if_pos rfl] at H; exact H
    clear H
    have H := H1
    clear H1
    obtain rfl := Option.some.inj H
    go_enter Try.func4, Try.ntmps4
    go_wp2_with (first | ((with_reducible refine gate_callee (f := 14) rfl ?_); refine goesL_ (some 20) rfl rfl Try.func14 (by kernel_rfl) rfl #[.slice A0 l0.length c0] rfl zT8 ?_; (with_reducible refine (laws_big.calls _ _ l0 true _ ?side1 ?side2 A2.out).mono ?_); (case side1 => exact zC8 HR0.out); (case side2 => exact HC0.out); rintro e w' ⟨rfl, ⟨nd, rfl⟩⟩; refine ⟨_, rfl, ?_⟩))
    go_ret
    exact ⟨zE8, zB8_0⟩
  replace c3 := Bool.eq_false_iff.mpr c3
  subst c3
  have H1 : ((laws_at.f l0 1).bind fun t287 => ((laws_at.f l0 2).bind fun t288 => ((impl_LoseCode.f k 20 (wrap64 (1 + (Int.tmod t287 5))) 3).bind fun bt289 => ((spec_LoseCode.f k 20 (wrap64 (1 + (Int.tmod t287 5))) 3).bind fun bt293 => (if (bt289.2 != bt293.2) = true then (laws_FnLoses.j0 k l0 (wrap64 (1 + (Int.tmod t287 5))) (wrap64 (1 + (Int.tmod t288 3))) bt289.1 true) else (laws_FnLoses.j0 k l0 (wrap64 (1 + (Int.tmod t287 5))) (wrap64 (1 + (Int.tmod t288 3))) bt289.1 (!bt289.2))))))) = some r := by rw [if_neg (show ¬ (false = true) by decide)] at H; exact H
  clear H
  have H := H1
  clear H1
  replace H := Option.bind_eq_some_iff.mp H
  obtain ⟨t287, A40, H⟩ := H
  replace H : ((laws_at.f l0 2).bind fun t288 => ((impl_LoseCode.f k 20 (wrap64 (1 + (Int.tmod t287 5))) 3).bind fun bt289 => ((spec_LoseCode.f k 20 (wrap64 (1 + (Int.tmod t287 5))) 3).bind fun bt293 => (if (bt289.2 != bt293.2) = true then (laws_FnLoses.j0 k l0 (wrap64 (1 + (Int.tmod t287 5))) (wrap64 (1 + (Int.tmod t288 3))) bt289.1 true) else (laws_FnLoses.j0 k l0 (wrap64 (1 + (Int.tmod t287 5))) (wrap64 (1 + (Int.tmod t288 3))) bt289.1 (!bt289.2)))))) = some r := H
  have A4 := Aside0.mk A40
  clear A40
  replace H := Option.bind_eq_some_iff.mp H
  obtain ⟨t288, A50, H⟩ := H
  replace H : ((impl_LoseCode.f k 20 (wrap64 (1 + (Int.tmod t287 5))) 3).bind fun bt289 => ((spec_LoseCode.f k 20 (wrap64 (1 + (Int.tmod t287 5))) 3).bind fun bt293 => (if (bt289.2 != bt293.2) = true then (laws_FnLoses.j0 k l0 (wrap64 (1 + (Int.tmod t287 5))) (wrap64 (1 + (Int.tmod t288 3))) bt289.1 true) else (laws_FnLoses.j0 k l0 (wrap64 (1 + (Int.tmod t287 5))) (wrap64 (1 + (Int.tmod t288 3))) bt289.1 (!bt289.2))))) = some r := H
  have A5 := Aside0.mk A50
  clear A50
  replace H := Option.bind_eq_some_iff.mp H
  obtain ⟨⟨t289, t290⟩, A60, H⟩ := H
  replace H : ((spec_LoseCode.f k 20 (wrap64 (1 + (Int.tmod t287 5))) 3).bind fun bt293 => (if (t290 != bt293.2) = true then (laws_FnLoses.j0 k l0 (wrap64 (1 + (Int.tmod t287 5))) (wrap64 (1 + (Int.tmod t288 3))) t289 true) else (laws_FnLoses.j0 k l0 (wrap64 (1 + (Int.tmod t287 5))) (wrap64 (1 + (Int.tmod t288 3))) t289 (!t290)))) = some r := H
  have A6 := Aside0.mk A60
  clear A60
  replace H := Option.bind_eq_some_iff.mp H
  obtain ⟨⟨t293, t294⟩, A70, H⟩ := H
  replace H : (if (t290 != t294) = true then (laws_FnLoses.j0 k l0 (wrap64 (1 + (Int.tmod t287 5))) (wrap64 (1 + (Int.tmod t288 3))) t289 true) else (laws_FnLoses.j0 k l0 (wrap64 (1 + (Int.tmod t287 5))) (wrap64 (1 + (Int.tmod t288 3))) t289 (!t290))) = some r := H
  have A7 := Aside0.mk A70
  clear A70
  have HC8 := Aside0.mk H
  clear H
  go_enter Try.func4, Try.ntmps4
  go_upto_region 7 with (first | ((with_reducible refine gate_callee (f := 14) rfl ?_); refine goesL_ (some 20) rfl rfl Try.func14 (by kernel_rfl) rfl #[.slice A0 l0.length c0] rfl zT8 ?_; (with_reducible refine (laws_big.calls _ _ l0 false _ ?side1 ?side2 A2.out).mono ?_); (case side1 => exact zC8 HR0.out); (case side2 => exact HC0.out); rintro e w' ⟨rfl, ⟨nd, rfl⟩⟩; refine ⟨_, rfl, ?_⟩) | ((with_reducible refine gate_callee (f := 15) rfl ?_); refine goesL_ (some 22) rfl rfl Try.func15 (by kernel_rfl) rfl #[.slice A0 l0.length c0, .int .i64 1] rfl zT8 ?_; (with_reducible refine (laws_at.calls _ _ l0 1 t287 _ ?side1 ?side2 A4.out).mono ?_); (case side1 => exact zC8 HR0.out); (case side2 => exact HC0.out); rintro e w' ⟨rfl, ⟨nd, rfl⟩⟩; refine ⟨_, rfl, ?_⟩) | ((with_reducible refine gate_callee (f := 15) rfl ?_); refine goesL_ (some 26) rfl rfl Try.func15 (by kernel_rfl) rfl #[.slice A0 l0.length c0, .int .i64 2] rfl zT8 ?_; (with_reducible refine (laws_at.calls _ _ l0 2 t288 _ ?side1 ?side2 A5.out).mono ?_); (case side1 => exact zC8 HR0.out); (case side2 => exact HC0.out); rintro e w' ⟨rfl, ⟨nd, rfl⟩⟩; refine ⟨_, rfl, ?_⟩) | ((with_reducible refine gate_callee (f := 22) rfl ?_); refine goesL_ (some 31) rfl rfl Try.func22 (by kernel_rfl) rfl #[.int .i64 20, .int .i64 (wrap64 (1 + (Int.tmod t287 5))), .int .i64 3] rfl zT8 ?_; (with_reducible refine (impl_LoseCode.calls k 20 (wrap64 (1 + (Int.tmod t287 5))) 3 t289 t290 _ A6.out).mono ?_); rintro e w9 ⟨v291, rfl, ho0, hb⟩; refine ⟨_, rfl, ?_⟩; have n0_ := Aside0.mk (Kd.R_lower ho0 (below_size (zB8_0))); have n1_ := Aside0.mk (below_step (zB8_0) hb); clear HB; have HO292 := n0_; have HB := n1_; clear n0_ n1_; (try clear hb); (try clear hb2); (try clear hk); (try clear hi); (try clear ho0)) | ((with_reducible refine gate_callee (f := 23) rfl ?_); refine goesL_ (some 36) rfl rfl Try.func23 (by kernel_rfl) rfl #[.int .i64 20, .int .i64 (wrap64 (1 + (Int.tmod t287 5))), .int .i64 3] rfl zT8 ?_; (with_reducible refine (spec_LoseCode.calls k 20 (wrap64 (1 + (Int.tmod t287 5))) 3 t293 t294 _ A7.out).mono ?_); rintro e w10 ⟨v295, rfl, ho0, hb⟩; refine ⟨_, rfl, ?_⟩; have n0_ := Aside0.mk (Kd.R_elder' (zR8 HO292.out) (Kd.R_base ho0) hb); have n1_ := Aside0.mk (Kd.R_lower (Kd.R_new' ho0 (Kd.R_lt (zR8 HO292.out))) (below_size (zB8_0))); have n2_ := Aside0.mk (below_step (zB8_0) hb); clear HO292; clear HB; have HO292 := n0_; have HO296 := n1_; have HB := n2_; clear n0_ n1_ n2_; (try clear hb); (try clear hb2); (try clear hk); (try clear hi); (try clear ho0)))
  (try simp only [Act.put, List.setIfInBounds_toArray, List.set_cons_zero, List.set_cons_succ])
  go_cut [45] (fun v45 wc => ∃ (kq : Nat) (x45_7 : Bool), v45 = .bool x45_7 ∧ Aside0 (laws_FnLoses.j0 kq l0 (wrap64 (1 + (Int.tmod t287 5))) (wrap64 (1 + (Int.tmod t288 3))) t289 x45_7 = some r) ∧ Aside0 (kq ≤ k) ∧ Aside0 (Kd.R (Kd.int .i64) 3 wc w.heap.size (fun _ => True) v291 t289) ∧ Aside0 (Below w.heap.size w wc))
  case first =>
    have H := HC8.out
    clear HC8
    by_cases c11 : (t290 != t294) = true
    rotate_left
    · rw [if_neg c11] at H
      have c11b0 : (t290 != t294) = false := by simpa using c11
      (try (have c11b1 : decide (t290 = t294) = true := by simpa using c11))
      (try (have c11b2 : (t290 == t294) = true := by simpa using c11))
      clear c11
      (first | rw [c11b0] | (simp only [i64_w, i32_w]; rw [c11b0]) | skip)
      have H' := Aside0.mk H
      clear H
      go_wp2
      go_meet
      case rel => exact ⟨_, (!t290), (by first | rfl | (simp; done) | (simp [*]; done)), H', ⟨by first | omega | exact Nat.le_refl _⟩, ⟨by (with_reducible repeat (first | apply Kd.R_alloc | apply Kd.R_drewN | apply Kd.R_drew)); exact Kd.R_mono HO292.out (fun _ hk => trivial)⟩, ⟨zB8_0⟩⟩
    rw [if_pos c11] at H
    have c11b0 : (t290 != t294) = true := c11
    (try (have c11b1 : decide (t290 = t294) = false := by simpa using c11))
    (try (have c11b2 : (t290 == t294) = false := by simpa using c11))
    (try (have c11b3 : ¬ (t290 = t294) := by simpa using c11))
    clear c11
    (first | rw [c11b0] | (simp only [i64_w, i32_w]; rw [c11b0]) | skip)
    have H' := Aside0.mk H
    clear H
    go_wp2
    go_meet
    case rel => exact ⟨_, (true), (by first | rfl | (simp; done) | (simp [*]; done)), H', ⟨by first | omega | exact Nat.le_refl _⟩, ⟨by (with_reducible repeat (first | apply Kd.R_alloc | apply Kd.R_drewN | apply Kd.R_drew)); exact Kd.R_mono HO292.out (fun _ hk => trivial)⟩, ⟨zB8_0⟩⟩
  case rest =>
    clear HC8
    try clear c1
    try clear c2
    try clear p2
    try clear c3
    try clear c4
    try clear p6
    try clear c11
    try clear c11b0
    try clear c11b1
    try clear c11b2
    obtain ⟨kq, x45_7, rfl, HA, HJ7, HO_5, HB⟩ := hcut
    cases kq with
    | zero => exact absurd HA.out (by simp [laws_FnLoses.j0])
    | succ kj7 =>
      have H := HA.out
      clear HA
      simp only [laws_FnLoses.j0] at H
      by_cases c12 : x45_7 = true
      · subst c12
        have H1 : (some false) = some r := by rw [if_pos rfl] at H; exact H
        clear H
        have H := H1
        clear H1
        obtain rfl := Option.some.inj H
        go_wp2
        go_ret
        exact ⟨zE8, zB8_0⟩
      replace c12 := Bool.eq_false_iff.mpr c12
      subst c12
      have H1 : (if 24 ≤ 35184372088832 then ((impl_Place.f kj7 (List.replicate 24 0) 3 t289).bind fun bt300 => (if bt300.2 = true then (laws_FnLoses.l0 kj7 l0 (wrap64 (1 + (Int.tmod t287 5))) (wrap64 (1 + (Int.tmod t288 3))) bt300.1 (([] : List (S31))) 0) else (some false))) else (none)) = some r := by rw [if_neg (show ¬ (false = true) by decide)] at H; exact H
      clear H
      have H := H1
      clear H1
      by_cases c13 : 24 ≤ 35184372088832
      rotate_left
      · rw [if_neg c13] at H
        exact absurd H (by simp)
      rw [if_pos c13] at H
      have c13b0 := eq_true c13
      have c13b1 : decide (24 ≤ 35184372088832) = true := decide_eq_true c13
      clear c13
      obtain ⟨y297, hy297⟩ : ∃ y_ : List Int, y_ = (List.replicate 24 0) := ⟨_, rfl⟩
      replace H : ((impl_Place.f kj7 y297 3 t289).bind fun bt300 => (if bt300.2 = true then (laws_FnLoses.l0 kj7 l0 (wrap64 (1 + (Int.tmod t287 5))) (wrap64 (1 + (Int.tmod t288 3))) bt300.1 (([] : List (S31))) 0) else (some false))) = some r := by first | (rw [hy297]; with_reducible exact H) | (have H2_ := (Option.bind_some _ _).symm.trans H; rw [hy297]; with_reducible exact H2_) | (have H2_ := (Option.bind_some _ _).symm.trans H; with_reducible exact H2_) | with_reducible exact H | (rw [hy297]; exact H) | exact H
      have Ny297 := Aside0.mk hy297
      clear hy297
      replace H := Option.bind_eq_some_iff.mp H
      obtain ⟨⟨t300, t301⟩, A140, H⟩ := H
      replace H : (if t301 = true then (laws_FnLoses.l0 kj7 l0 (wrap64 (1 + (Int.tmod t287 5))) (wrap64 (1 + (Int.tmod t288 3))) t300 (([] : List (S31))) 0) else (some false)) = some r := H
      have A14 := Aside0.mk A140
      clear A140
      by_cases c15 : t301 = true
      rotate_left
      · replace c15 := Bool.eq_false_iff.mpr c15
        subst c15
        have H1 : (some false) = some r := by rw [if_neg (show ¬ (false = true) by decide)] at H; exact H
        clear H
        have H := H1
        clear H1
        obtain rfl := Option.some.inj H
        go_wp2_with (first | ((with_reducible refine gate_dst (N := 47) rfl ?_); refine Kd.R_make (Kd.int .i64) _ 3 rfl (N := 47) rfl 25 _ _ rfl 24 rfl rfl Try.underlying25 (.int .i64 0) 8 info3 rfl (by decide) (by omega) 0 (ok := fun _ => True) (okp := fun _ => True) rfl (fun _ hk => hk) trivial (by omega) (by omega) (Below.refl _ _) (Nat.le_refl _) ?_; intro v298 w81 ho82 hb hg_ hnew_; clear hg_ hnew_; (first | rw [← Ny297.out] at ho82 | (simp only [Int.reduceToNat] at ho82; rw [← Ny297.out] at ho82)); have n0_ := Aside0.mk (Kd.R_elder' (zR8 HO_5.out) (Kd.R_base ho82) hb); have n1_ := Aside0.mk (Kd.R_lower (Kd.R_new' ho82 (Kd.R_lt (zR8 HO_5.out))) (below_size (zB8_0))); have n2_ := Aside0.mk (below_step (zB8_0) hb); clear HO_5; clear HB; have HO_5 := n0_; have HO299 := n1_; have HB := n2_; clear n0_ n1_ n2_; clear hb ho82; obtain ⟨Ao83, co83, eo83⟩ := Kd.R_slice HO299.out; subst eo83; obtain ⟨Ao84, co84, eo84⟩ := Kd.R_slice HO_5.out; subst eo84) | ((with_reducible refine gate_callee (f := 18) rfl ?_); refine goesL_ (some 49) rfl rfl Try.func18 (by kernel_rfl) rfl #[.slice Ao83 y297.length co83, .int .i64 3, .slice Ao84 t289.length co84] rfl zT8 ?_; (with_reducible refine (impl_Place.calls kj7 _ _ y297 3 _ _ t289 t300 false _ ?side1 ?side2 ?side3 ?side4 A14.out).mono ?_); (case side1 => repeat (first | exact (Kd.R_reads' HO299.out).2.2 | (with_reducible refine Kd.C_alloc ?_ _) | (with_reducible refine Kd.C_drewN ?_ _) | (with_reducible refine Kd.C_drew ?_))); (case side2 => exact (Kd.R_reads' HO299.out).2.1); (case side3 => repeat (first | exact (Kd.R_reads' HO_5.out).2.2 | (with_reducible refine Kd.C_alloc ?_ _) | (with_reducible refine Kd.C_drewN ?_ _) | (with_reducible refine Kd.C_drew ?_))); (case side4 => exact (Kd.R_reads' HO_5.out).2.1); rintro e w85 ⟨v302, rfl, ho0, hb⟩; refine ⟨_, rfl, ?_⟩; have n0_ := Aside0.mk (Kd.R_elder' (zR8 HO_5.out) (Kd.R_base ho0) hb); have n1_ := Aside0.mk (Kd.R_elder' (zR8 HO299.out) (Kd.R_base ho0) hb); have n2_ := Aside0.mk (Kd.R_lower (Kd.R_new' (Kd.R_new' ho0 (Kd.R_lt (zR8 HO_5.out))) (Kd.R_lt (zR8 HO299.out))) (below_size (zB8_0))); have n3_ := Aside0.mk (below_step (zB8_0) hb); clear HO_5; clear HO299; clear HB; have HO_5 := n0_; have HO299 := n1_; have HO303 := n2_; have HB := n3_; clear n0_ n1_ n2_ n3_; (try clear hb); (try clear hb2); (try clear hk); (try clear hi); (try clear ho0)))
        go_ret
        exact ⟨zE8, zB8_0⟩
      subst c15
      have H1 : (laws_FnLoses.l0 kj7 l0 (wrap64 (1 + (Int.tmod t287 5))) (wrap64 (1 + (Int.tmod t288 3))) t300 (([] : List (S31))) 0) = some r := by rw [if_pos rfl] at H; exact H
      clear H
      have H := H1
      clear H1
      obtain ⟨y304, hy304⟩ : ∃ y_ : List (S31), y_ = (([] : List (S31))) := ⟨_, rfl⟩
      replace H : (laws_FnLoses.l0 kj7 l0 (wrap64 (1 + (Int.tmod t287 5))) (wrap64 (1 + (Int.tmod t288 3))) t300 y304 0) = some r := by first | (rw [hy304]; with_reducible exact H) | (have H2_ := (Option.bind_some _ _).symm.trans H; rw [hy304]; with_reducible exact H2_) | (have H2_ := (Option.bind_some _ _).symm.trans H; with_reducible exact H2_) | with_reducible exact H | (rw [hy304]; exact H) | exact H
      have Ny304 := Aside0.mk hy304
      clear hy304
      have H' := Aside0.mk H
      clear H
      go_wp2_with (first | ((with_reducible refine gate_dst (N := 47) rfl ?_); refine Kd.R_make (Kd.int .i64) _ 3 rfl (N := 47) rfl 25 _ _ rfl 24 rfl rfl Try.underlying25 (.int .i64 0) 8 info3 rfl (by decide) (by omega) 0 (ok := fun _ => True) (okp := fun _ => True) rfl (fun _ hk => hk) trivial (by omega) (by omega) (Below.refl _ _) (Nat.le_refl _) ?_; intro v298 w16 ho17 hb hg_ hnew_; clear hg_ hnew_; (first | rw [← Ny297.out] at ho17 | (simp only [Int.reduceToNat] at ho17; rw [← Ny297.out] at ho17)); have n0_ := Aside0.mk (Kd.R_elder' (zR8 HO_5.out) (Kd.R_base ho17) hb); have n1_ := Aside0.mk (Kd.R_lower (Kd.R_new' ho17 (Kd.R_lt (zR8 HO_5.out))) (below_size (zB8_0))); have n2_ := Aside0.mk (below_step (zB8_0) hb); clear HO_5; clear HB; have HO_5 := n0_; have HO299 := n1_; have HB := n2_; clear n0_ n1_ n2_; clear hb ho17; obtain ⟨Ao18, co18, eo18⟩ := Kd.R_slice HO299.out; subst eo18; obtain ⟨Ao19, co19, eo19⟩ := Kd.R_slice HO_5.out; subst eo19) | ((with_reducible refine gate_callee (f := 18) rfl ?_); refine goesL_ (some 49) rfl rfl Try.func18 (by kernel_rfl) rfl #[.slice Ao18 y297.length co18, .int .i64 3, .slice Ao19 t289.length co19] rfl zT8 ?_; (with_reducible refine (impl_Place.calls kj7 _ _ y297 3 _ _ t289 t300 true _ ?side1 ?side2 ?side3 ?side4 A14.out).mono ?_); (case side1 => repeat (first | exact (Kd.R_reads' HO299.out).2.2 | (with_reducible refine Kd.C_alloc ?_ _) | (with_reducible refine Kd.C_drewN ?_ _) | (with_reducible refine Kd.C_drew ?_))); (case side2 => exact (Kd.R_reads' HO299.out).2.1); (case side3 => repeat (first | exact (Kd.R_reads' HO_5.out).2.2 | (with_reducible refine Kd.C_alloc ?_ _) | (with_reducible refine Kd.C_drewN ?_ _) | (with_reducible refine Kd.C_drew ?_))); (case side4 => exact (Kd.R_reads' HO_5.out).2.1); rintro e w20 ⟨v302, rfl, ho0, hb⟩; refine ⟨_, rfl, ?_⟩; have n0_ := Aside0.mk (Kd.R_elder' (zR8 HO_5.out) (Kd.R_base ho0) hb); have n1_ := Aside0.mk (Kd.R_elder' (zR8 HO299.out) (Kd.R_base ho0) hb); have n2_ := Aside0.mk (Kd.R_lower (Kd.R_new' (Kd.R_new' ho0 (Kd.R_lt (zR8 HO_5.out))) (Kd.R_lt (zR8 HO299.out))) (below_size (zB8_0))); have n3_ := Aside0.mk (below_step (zB8_0) hb); clear HO_5; clear HO299; clear HB; have HO_5 := n0_; have HO299 := n1_; have HO303 := n2_; have HB := n3_; clear n0_ n1_ n2_ n3_; (try clear hb); (try clear hb2); (try clear hk); (try clear hi); (try clear ho0)) | ((with_reducible refine gate_dst (N := 54) rfl ?_); refine Kd.S_lit k31 _ 31 ?hg (N := 54) ?hd (xs := ([] : List (S31))) (inner := []) (ok := fun _ => True) (okp := fun _ => True) ?hr ?hp (fun _ hk => hk) trivial (Below.refl _ _) (Nat.le_refl _) (by simp) ?_; (case hd => rfl); (case hg => rfl); (case hr => first | (go_simp; done) | (go_simp; rfl)); (case hp => exact (Reps.none _ _)); intro v305 w21 ho22 hb hg_ hnew_; clear hg_ hnew_; (first | rw [← Ny304.out] at ho22 | (simp only [Int.reduceToNat] at ho22; rw [← Ny304.out] at ho22)); have n0_ := Aside0.mk (Kd.R_below (zR8 HO_5.out) hb); have n1_ := Aside0.mk (Kd.R_below (zR8 HO299.out) hb); have n2_ := Aside0.mk (Kd.R_below (zR8 HO303.out) hb); have n3_ := Aside0.mk (Kd.S_lower (Kd.S_new' (Kd.S_new' (Kd.S_new' ho22 (Kd.R_lt (zR8 HO_5.out))) (Kd.R_lt (zR8 HO299.out))) (Kd.R_lt (zR8 HO303.out))) (below_size (zB8_0))); have n4_ := Aside0.mk (below_step (zB8_0) hb); clear HO_5; clear HO299; clear HO303; clear HB; have HO_5 := n0_; have HO299 := n1_; have HO303 := n2_; have HO306 := n3_; have HB := n4_; clear n0_ n1_ n2_ n3_ n4_; clear hb ho22))
      go_loopg [11, 12] kj7 (fun kq v11 v12 w' => ∃ (x11_2 : List (S31)) (x12_2 : Int), v12 = .int .i64 x12_2 ∧ Aside0 (laws_FnLoses.l0 kq l0 (wrap64 (1 + (Int.tmod t287 5))) (wrap64 (1 + (Int.tmod t288 3))) t300 x11_2 x12_2 = some r) ∧ Aside0 (kq ≤ kj7) ∧ Aside0 (Kd.R (Kd.int .i64) 3 w' w.heap.size (fun _ => True) v302 t300) ∧ Aside0 (Kd.S k31 31 w' w.heap.size (fun k_ => some k_ ≠ (v302 : Value).ownBlock) v11 x11_2) ∧ Aside0 (Below w.heap.size w w'))
      case atStart => exact ⟨(y304), (0), (by first | rfl | (simp; done) | (simp [*]; done)), H', ⟨Nat.le_refl _⟩, ⟨by (with_reducible repeat (first | apply Kd.R_alloc | apply Kd.R_drewN | apply Kd.R_drew)); exact Kd.R_mono HO303.out (fun _ hk => trivial)⟩, ⟨by (with_reducible repeat (first | apply Kd.S_alloc | apply Kd.S_drewN | apply Kd.S_drew)); exact Kd.S_mono HO306.out (fun _ hk => hk.2)⟩, ⟨zB8_0⟩⟩
      case round =>
        clear H'
        try clear c1
        try clear c2
        try clear p2
        try clear c3
        try clear c4
        try clear p6
        try clear c11
        try clear c11b0
        try clear c11b1
        try clear c11b2
        try clear c12
        try clear c13
        try clear c13b0
        try clear c13b1
        try clear c14
        try clear c15
        try clear c18
        try clear c22
        try clear p2
        try clear p6
        obtain ⟨x11_2, x12_2, rfl, HA, HK2, HO_9, HO_11, HB⟩ := hrel
        cases gk with
        | zero => exact absurd HA.out (by simp [laws_FnLoses.l0])
        | succ k2 =>
          have H := HA.out
          clear HA
          simp only [laws_FnLoses.l0] at H
          by_cases c23 : x12_2 < (wrap64 (1 + (Int.tmod t288 3)))
          · rw [if_pos c23] at H
            have c23b0 : decide (x12_2 < (wrap64 (1 + (Int.tmod t288 3)))) = true := decide_eq_true c23
            clear c23
            replace H := Option.bind_eq_some_iff.mp H
            obtain ⟨⟨t307, t310, t311⟩, A240, H⟩ := H
            replace H : (if x11_2.length < 3518437208883 then (laws_FnLoses.l0 k2 l0 (wrap64 (1 + (Int.tmod t287 5))) (wrap64 (1 + (Int.tmod t288 3))) t300 (x11_2 ++ [(⟨t307, t310, t311⟩ : S31)]) (wrap64 (x12_2 + 1))) else (none)) = some r := H
            have A24 := Aside0.mk A240
            clear A240
            by_cases c25 : x11_2.length < 3518437208883
            rotate_left
            · rw [if_neg c25] at H
              exact absurd H (by simp)
            rw [if_pos c25] at H
            have LMc25 := Aside0.mk c25
            clear c25
            obtain ⟨y312, hy312⟩ : ∃ y_ : List (S31), y_ = (x11_2 ++ [(⟨t307, t310, t311⟩ : S31)]) := ⟨_, rfl⟩
            replace H : (laws_FnLoses.l0 k2 l0 (wrap64 (1 + (Int.tmod t287 5))) (wrap64 (1 + (Int.tmod t288 3))) t300 y312 (wrap64 (x12_2 + 1))) = some r := by first | (rw [hy312]; with_reducible exact H) | (have H2_ := (Option.bind_some _ _).symm.trans H; rw [hy312]; with_reducible exact H2_) | (have H2_ := (Option.bind_some _ _).symm.trans H; with_reducible exact H2_) | with_reducible exact H | (rw [hy312]; exact H) | exact H
            have Ny312 := Aside0.mk hy312
            clear hy312
            have H' := Aside0.mk H
            clear H
            go_wp2_with (first | ((with_reducible refine gate_callee (f := 19) rfl ?_); refine goesL_ (some 61) rfl rfl Try.func19 (by kernel_rfl) rfl #[.int .i64 3] rfl zT8 ?_; (with_reducible refine (impl_HartNew.calls 3 t307 t310 t311 _ A24.out).mono ?_); rintro e w26 ⟨v308, rfl, ho0, hb⟩; refine ⟨_, rfl, ?_⟩; have n0_ := Aside0.mk (Kd.R_elder' (zR8 HO_9.out) (Kd.R_base ho0) hb); have n1_ := Aside0.mk (Kd.S_elder' (by (with_reducible repeat (first | apply Kd.S_alloc | apply Kd.S_drewN | apply Kd.S_drew)); exact HO_11.out) (Kd.R_base ho0) hb); have n2_ := Aside0.mk (Kd.R_lower (Kd.R_new' ho0 (Kd.R_lt (zR8 HO_9.out))) (below_size (zB8_0))); have n3_ := Aside0.mk (below_step (zB8_0) hb); clear HO_9; clear HO_11; clear HB; have HO_9 := n0_; have HO_11 := n1_; have HO309 := n2_; have HB := n3_; clear n0_ n1_ n2_ n3_; (try clear hb); (try clear hb2); (try clear hk); (try clear hi); (try clear ho0); obtain ⟨Ao28, co28, eo28⟩ := Kd.R_slice HO309.out; subst eo28) | ((with_reducible refine gate_builtin (b := .append) (xs := #[.tmp 60, .tmp 62]) rfl ?_); at_builtin; refine Kd.S_append k31 (w0 := w) w.heap.size rfl (.tmp 60) (.tmp 62) 29 31 (.agg #[(.slice none 0 0), (.int .i64 0), (.int .i64 0)]) 40 rfl Try.underlying29 info31 rfl (by decide) (by omega) u11 x11_2 (⟨t307, t310, t311⟩ : S31) [.slice Ao28 t307.length co28, .int .i64 t310, .int .i64 t311] (fun k_ => some k_ ≠ (v302 : Value).ownBlock) (fun k_ => some k_ = (.slice Ao28 t307.length co28 : Value).ownBlock) rfl rfl ?aP (fun k_ hk_ => ((Kd.R_mono (ok' := fun k_ => ((fun k_ => some k_ ≠ (v302 : Value).ownBlock)) k_ ∧ some k_ ≠ (u11 : Value).ownBlock) (Kd.R_apart' (HO309.out) (Kd.S_typed HO_11.out) (by decide)) (fun k_ hk => ⟨hk.1.2, hk.2⟩))).1 k_ hk_.symm) ?aF ?aO ?aB ?aS ?aL ?_; (case aP => exact k31_mkM _ _ _ (⟨t307, t310, t311⟩ : S31) (Kd.R_mono (Kd.R_tight rfl (Kd.R_mono (ok' := fun k_ => ((fun k_ => some k_ ≠ (v302 : Value).ownBlock)) k_ ∧ some k_ ≠ (u11 : Value).ownBlock) (Kd.R_apart' (HO309.out) (Kd.S_typed HO_11.out) (by decide)) (fun k_ hk => ⟨hk.1.2, hk.2⟩))) (fun _ h_ => h_))); (case aB => exact (zB8_0)); (case aF => exact (fun k_ hk => Kd.fresh' (Kd.R_lt (zR8 HO_9.out)) k_ hk)); (case aO => exact (by (with_reducible repeat (first | apply Kd.S_alloc | apply Kd.S_drewN | apply Kd.S_drew)); exact Kd.S_mono HO_11.out (fun k_ hk => ⟨hk.1, fun e_ => hk.2 e_⟩))); (case aS => exact (below_size (zB8_0))); (case aL => have := LMc25.out; omega); intro v313 w27 ho hb hg hat; rw [← Ny312.out] at ho; have n0_ := Aside0.mk (Kd.R_over' (zR8 HO_9.out) (Kd.S_typed (by (with_reducible repeat (first | apply Kd.S_alloc | apply Kd.S_drewN | apply Kd.S_drew)); exact HO_11.out)) (by decide) hg); have n1_ := Aside0.mk (hb); have n2_ := Aside0.mk (ho); clear HO_9; clear HB; clear HO_11; clear HO309; have HO_9 := n0_; have HB := n1_; have HO314 := n2_; clear n0_ n1_ n2_; clear ho hb hg hat))
            go_roundg k2
            case measure => have := HJ7.out; have := HK2.out; omega
            case rel => exact ⟨(y312), (wrap64 (x12_2 + 1)), (by first | rfl | (simp; done) | (simp [*]; done)), H', ⟨by have := HJ7.out; have := HK2.out; omega⟩, ⟨by (with_reducible repeat (first | apply Kd.R_alloc | apply Kd.R_drewN | apply Kd.R_drew)); exact Kd.R_mono HO_9.out (fun _ hk => trivial)⟩, ⟨by (with_reducible repeat (first | apply Kd.S_alloc | apply Kd.S_drewN | apply Kd.S_drew)); exact HO314.out⟩, ⟨zB8_0⟩⟩
          rw [if_neg c23] at H
          have c23b0 : decide (x12_2 < (wrap64 (1 + (Int.tmod t288 3)))) = false := decide_eq_false c23
          clear c23
          obtain ⟨y315, hy315⟩ : ∃ y_ : List Int, y_ = (([] : List Int)) := ⟨_, rfl⟩
          replace H : (laws_FnLoses.l1 k2 l0 (wrap64 (1 + (Int.tmod t287 5))) (wrap64 (1 + (Int.tmod t288 3))) t300 x11_2 y315 0) = some r := by first | (rw [hy315]; with_reducible exact H) | (have H2_ := (Option.bind_some _ _).symm.trans H; rw [hy315]; with_reducible exact H2_) | (have H2_ := (Option.bind_some _ _).symm.trans H; with_reducible exact H2_) | with_reducible exact H | (rw [hy315]; exact H) | exact H
          have Ny315 := Aside0.mk hy315
          clear hy315
          have H' := Aside0.mk H
          clear H
          go_wp2_with (first | ((with_reducible refine gate_dst (N := 64) rfl ?_); refine Kd.R_lit (Kd.int .i64) _ 3 ?hg (N := 64) ?hd (xs := ([] : List Int)) (inner := []) (ok := fun _ => True) (okp := fun _ => True) ?hr ?hp (fun _ hk => hk) trivial (Below.refl _ _) (Nat.le_refl _) (by simp) ?_; (case hd => rfl); (case hg => rfl); (case hr => first | (go_simp; done) | (go_simp; rfl)); (case hp => exact (Reps.none _ _)); intro v316 w29 ho30 hb hg_ hnew_; clear hg_ hnew_; (first | rw [← Ny315.out] at ho30 | (simp only [Int.reduceToNat] at ho30; rw [← Ny315.out] at ho30)); have n0_ := Aside0.mk (Kd.R_elder' (zR8 HO_9.out) (Kd.R_base ho30) hb); have n1_ := Aside0.mk (Kd.S_elder' (by (with_reducible repeat (first | apply Kd.S_alloc | apply Kd.S_drewN | apply Kd.S_drew)); exact HO_11.out) (Kd.R_base ho30) hb); have n2_ := Aside0.mk (Kd.R_lower (Kd.R_new' ho30 (Kd.R_lt (zR8 HO_9.out))) (below_size (zB8_0))); have n3_ := Aside0.mk (below_step (zB8_0) hb); clear HO_9; clear HO_11; clear HB; have HO_9 := n0_; have HO_11 := n1_; have HO317 := n2_; have HB := n3_; clear n0_ n1_ n2_ n3_; clear hb ho30))
          go_loopg [13, 14] k2 (fun kq v13 v14 w' => ∃ (x13_3 : List Int) (x14_3 : Int), v14 = .int .i64 x14_3 ∧ Aside0 (laws_FnLoses.l1 kq l0 (wrap64 (1 + (Int.tmod t287 5))) (wrap64 (1 + (Int.tmod t288 3))) t300 x11_2 x13_3 x14_3 = some r) ∧ Aside0 (kq ≤ k2) ∧ Aside0 (Kd.R (Kd.int .i64) 3 w' w.heap.size (fun k_ => some k_ ≠ (v13 : Value).ownBlock) v302 t300) ∧ Aside0 (Kd.S k31 31 w' w.heap.size (fun k_ => some k_ ≠ (v302 : Value).ownBlock ∧ some k_ ≠ (v13 : Value).ownBlock) u11 x11_2) ∧ Aside0 (Kd.R (Kd.int .i64) 3 w' w.heap.size (fun k_ => some k_ ≠ (v302 : Value).ownBlock) v13 x13_3) ∧ Aside0 (Below w.heap.size w w'))
          case atStart => exact ⟨(y315), (0), (by first | rfl | (simp; done) | (simp [*]; done)), H', ⟨Nat.le_refl _⟩, ⟨by (with_reducible repeat (first | apply Kd.R_alloc | apply Kd.R_drewN | apply Kd.R_drew)); exact Kd.R_mono HO_9.out (fun _ hk => hk.2)⟩, ⟨by (with_reducible repeat (first | apply Kd.S_alloc | apply Kd.S_drewN | apply Kd.S_drew)); exact HO_11.out⟩, ⟨by (with_reducible repeat (first | apply Kd.R_alloc | apply Kd.R_drewN | apply Kd.R_drew)); exact Kd.R_mono HO317.out (fun _ hk => hk.2)⟩, ⟨zB8_0⟩⟩
          case round =>
            clear H'
            try clear c1
            try clear c2
            try clear p2
            try clear c3
            try clear c4
            try clear p6
            try clear c11
            try clear c11b0
            try clear c11b1
            try clear c11b2
            try clear c12
            try clear c13
            try clear c13b0
            try clear c13b1
            try clear c14
            try clear c15
            try clear c18
            try clear c19
            try clear c22
            try clear c23
            try clear c23b0
            try clear c25
            try clear p2
            try clear p6
            obtain ⟨x13_3, x14_3, rfl, HA, HK3, HO_9, HO_11, HO_13, HB⟩ := hrel
            cases gk with
            | zero => exact absurd HA.out (by simp [laws_FnLoses.l1])
            | succ k3 =>
              have H := HA.out
              clear HA
              simp only [laws_FnLoses.l1] at H
              by_cases c31 : x14_3 < 60
              · rw [if_pos c31] at H
                have c31b0 : decide (x14_3 < 60) = true := decide_eq_true c31
                clear c31
                replace H := Option.bind_eq_some_iff.mp H
                obtain ⟨t318, A320, H⟩ := H
                replace H : (if (wrap64 (1 + (Int.tmod t288 3))) = 0 then (none) else (if x13_3.length < 17592186044416 then (laws_FnLoses.l1 k3 l0 (wrap64 (1 + (Int.tmod t287 5))) (wrap64 (1 + (Int.tmod t288 3))) t300 x11_2 (x13_3 ++ [Int.tmod t318 (wrap64 (1 + (Int.tmod t288 3)))]) (wrap64 (x14_3 + 1))) else (none))) = some r := H
                have A32 := Aside0.mk A320
                clear A320
                by_cases c33 : (wrap64 (1 + (Int.tmod t288 3))) = 0
                · rw [if_pos c33] at H
                  exact absurd H (by simp)
                rw [if_neg c33] at H
                have c33b0 : ((wrap64 (1 + (Int.tmod t288 3))) == 0) = false := beq_eq_false_iff_ne.mpr c33
                have c33b1 : ((wrap64 (1 + (Int.tmod t288 3))) != 0) = true := bne_iff_ne.mpr c33
                by_cases c34 : x13_3.length < 17592186044416
                rotate_left
                · rw [if_neg c34] at H
                  exact absurd H (by simp)
                rw [if_pos c34] at H
                have LMc34 := Aside0.mk c34
                clear c34
                obtain ⟨y319, hy319⟩ : ∃ y_ : List Int, y_ = (x13_3 ++ [Int.tmod t318 (wrap64 (1 + (Int.tmod t288 3)))]) := ⟨_, rfl⟩
                replace H : (laws_FnLoses.l1 k3 l0 (wrap64 (1 + (Int.tmod t287 5))) (wrap64 (1 + (Int.tmod t288 3))) t300 x11_2 y319 (wrap64 (x14_3 + 1))) = some r := by first | (rw [hy319]; with_reducible exact H) | (have H2_ := (Option.bind_some _ _).symm.trans H; rw [hy319]; with_reducible exact H2_) | (have H2_ := (Option.bind_some _ _).symm.trans H; with_reducible exact H2_) | with_reducible exact H | (rw [hy319]; exact H) | exact H
                have Ny319 := Aside0.mk hy319
                clear hy319
                have H' := Aside0.mk H
                clear H
                go_wp2_with (first | ((with_reducible refine gate_callee (f := 15) rfl ?_); refine goesL_ (some 73) rfl rfl Try.func15 (by kernel_rfl) rfl #[.slice A0 l0.length c0, .int .i64 (wrap64 (x14_3 + 3))] rfl zT8 ?_; (with_reducible refine (laws_at.calls _ _ l0 (wrap64 (x14_3 + 3)) t318 _ ?side1 ?side2 A32.out).mono ?_); (case side1 => exact zC8 (Kd.C_below HR0.out HB.out)); (case side2 => exact HC0.out); rintro e w' ⟨rfl, ⟨nd, rfl⟩⟩; refine ⟨_, rfl, ?_⟩) | ((with_reducible refine gate_builtin (b := .append) (xs := #[.tmp 69, .tmp 76]) rfl ?_); at_builtin; refine Kd.R_append (Kd.int .i64) (w0 := w) w.heap.size rfl (.tmp 69) (.tmp 76) 25 3 (.int .i64 0) 8 rfl Try.underlying25 info3 rfl (by decide) (by omega) u13 x13_3 (Int.tmod t318 (wrap64 (1 + (Int.tmod t288 3)))) [.int .i64 (Int.tmod t318 (wrap64 (1 + (Int.tmod t288 3))))] (fun k_ => some k_ ≠ (v302 : Value).ownBlock) (fun _ => False) rfl rfl ?aP (fun _ hk => hk.elim) ?aF ?aO ?aB ?aS ?aL ?_; (case aP => exact rfl); (case aB => exact (zB8_0)); (case aF => exact (fun k_ hk => Kd.fresh' (Kd.R_lt (zR8 HO_9.out)) k_ hk)); (case aO => exact (zR8 HO_13.out)); (case aS => exact (below_size (zB8_0))); (case aL => have := LMc34.out; omega); intro v320 w35 ho hb hg hat; rw [← Ny319.out] at ho; have n0_ := Aside0.mk (Kd.R_after (ok := (fun _ => True)) (by (with_reducible repeat (first | apply Kd.R_alloc | apply Kd.R_drewN | apply Kd.R_drew)); exact Kd.R_mono HO_9.out (fun _ hk => ⟨trivial, hk⟩)) hg hat); have n1_ := Aside0.mk (Kd.S_after (ok := (fun k_ => some k_ ≠ (v302 : Value).ownBlock)) (by (with_reducible repeat (first | apply Kd.S_alloc | apply Kd.S_drewN | apply Kd.S_drew)); exact HO_11.out) hg hat); have n2_ := Aside0.mk (hb); have n3_ := Aside0.mk (ho); clear HO_9; clear HO_11; clear HB; clear HO_13; have HO_9 := n0_; have HO_11 := n1_; have HB := n2_; have HO321 := n3_; clear n0_ n1_ n2_ n3_; clear ho hb hg hat))
                go_roundg k3
                case measure => have := HJ7.out; have := HK2.out; have := HK3.out; omega
                case rel => exact ⟨(y319), (wrap64 (x14_3 + 1)), (by first | rfl | (simp; done) | (simp [*]; done)), H', ⟨by have := HJ7.out; have := HK2.out; have := HK3.out; omega⟩, ⟨by (with_reducible repeat (first | apply Kd.R_alloc | apply Kd.R_drewN | apply Kd.R_drew)); exact Kd.R_mono HO_9.out (fun _ hk => hk.2)⟩, ⟨by (with_reducible repeat (first | apply Kd.S_alloc | apply Kd.S_drewN | apply Kd.S_drew)); exact HO_11.out⟩, ⟨zR8 HO321.out⟩, ⟨zB8_0⟩⟩
              rw [if_neg c31] at H
              have c31b0 : decide (x14_3 < 60) = false := decide_eq_false c31
              clear c31
              have H' := Aside0.mk H
              clear H
              go_wp2
              go_loopg [13, 15] k3 (fun kq v13 v15 w' => ∃ (x13_4 : List Int) (x15_4 : Int), v15 = .int .i64 x15_4 ∧ Aside0 (laws_FnLoses.l2 kq (wrap64 (1 + (Int.tmod t287 5))) (wrap64 (1 + (Int.tmod t288 3))) t300 x11_2 x13_4 x15_4 = some r) ∧ Aside0 (kq ≤ k3) ∧ Aside0 (Kd.R (Kd.int .i64) 3 w' w.heap.size (fun k_ => some k_ ≠ (v13 : Value).ownBlock) v302 t300) ∧ Aside0 (Kd.S k31 31 w' w.heap.size (fun k_ => some k_ ≠ (v302 : Value).ownBlock ∧ some k_ ≠ (v13 : Value).ownBlock) u11 x11_2) ∧ Aside0 (Kd.R (Kd.int .i64) 3 w' w.heap.size (fun k_ => some k_ ≠ (v302 : Value).ownBlock) v13 x13_4) ∧ Aside0 (Below w.heap.size w w'))
              case atStart => exact ⟨(x13_3), (0), (by first | rfl | (simp; done) | (simp [*]; done)), H', ⟨Nat.le_refl _⟩, ⟨zR8 HO_9.out⟩, ⟨by (with_reducible repeat (first | apply Kd.S_alloc | apply Kd.S_drewN | apply Kd.S_drew)); exact HO_11.out⟩, ⟨zR8 HO_13.out⟩, ⟨zB8_0⟩⟩
              case round =>
                clear H'
                try clear c1
                try clear c2
                try clear p2
                try clear c3
                try clear c4
                try clear p6
                try clear c11
                try clear c11b0
                try clear c11b1
                try clear c11b2
                try clear c12
                try clear c13
                try clear c13b0
                try clear c13b1
                try clear c14
                try clear c15
                try clear c18
                try clear c19
                try clear c22
                try clear c23
                try clear c23b0
                try clear c25
                try clear c31
                try clear c31b0
                try clear c33
                try clear c33b0
                try clear c33b1
                try clear c34
                try clear p2
                try clear p6
                obtain ⟨x13_4, x15_4, rfl, HA, HK4, HO_9, HO_11, HO_13, HB⟩ := hrel
                cases gk with
                | zero => exact absurd HA.out (by simp [laws_FnLoses.l2])
                | succ k4 =>
                  have H := HA.out
                  clear HA
                  simp only [laws_FnLoses.l2] at H
                  by_cases c36 : x15_4 < 60
                  · rw [if_pos c36] at H
                    have c36b0 : decide (x15_4 < 60) = true := decide_eq_true c36
                    clear c36
                    have H' := Aside0.mk H
                    clear H
                    go_wp2
                    go_loopg [13, 16] k4 (fun kq v13 v16 w' => ∃ (x13_5 : List Int) (x16_5 : Int), v16 = .int .i64 x16_5 ∧ Aside0 (laws_FnLoses.l3 kq (wrap64 (1 + (Int.tmod t287 5))) (wrap64 (1 + (Int.tmod t288 3))) t300 x11_2 x13_5 x15_4 x16_5 = some r) ∧ Aside0 (kq ≤ k4) ∧ Aside0 (Kd.R (Kd.int .i64) 3 w' w.heap.size (fun k_ => some k_ ≠ (v13 : Value).ownBlock) v302 t300) ∧ Aside0 (Kd.S k31 31 w' w.heap.size (fun k_ => some k_ ≠ (v302 : Value).ownBlock ∧ some k_ ≠ (v13 : Value).ownBlock) u11 x11_2) ∧ Aside0 (Kd.R (Kd.int .i64) 3 w' w.heap.size (fun k_ => some k_ ≠ (v302 : Value).ownBlock) v13 x13_5) ∧ Aside0 (Below w.heap.size w w'))
                    case atStart => exact ⟨(x13_4), (0), (by first | rfl | (simp; done) | (simp [*]; done)), H', ⟨Nat.le_refl _⟩, ⟨zR8 HO_9.out⟩, ⟨by (with_reducible repeat (first | apply Kd.S_alloc | apply Kd.S_drewN | apply Kd.S_drew)); exact HO_11.out⟩, ⟨zR8 HO_13.out⟩, ⟨zB8_0⟩⟩
                    case round =>
                      clear H'
                      try clear c1
                      try clear c2
                      try clear p2
                      try clear c3
                      try clear c4
                      try clear p6
                      try clear c11
                      try clear c11b0
                      try clear c11b1
                      try clear c11b2
                      try clear c12
                      try clear c13
                      try clear c13b0
                      try clear c13b1
                      try clear c14
                      try clear c15
                      try clear c18
                      try clear c19
                      try clear c22
                      try clear c23
                      try clear c23b0
                      try clear c25
                      try clear c31
                      try clear c31b0
                      try clear c33
                      try clear c33b0
                      try clear c33b1
                      try clear c34
                      try clear c36
                      try clear c36b0
                      try clear p2
                      try clear p6
                      obtain ⟨x13_5, x16_5, rfl, HA, HK5, HO_9, HO_11, HO_13, HB⟩ := hrel
                      cases gk with
                      | zero => exact absurd HA.out (by simp [laws_FnLoses.l3])
                      | succ k5 =>
                        have H := HA.out
                        clear HA
                        simp only [laws_FnLoses.l3] at H
                        by_cases c37 : x16_5 < (wrap64 (1 + (Int.tmod t288 3)))
                        rotate_left
                        · rw [if_neg c37] at H
                          have c37b0 : decide (x16_5 < (wrap64 (1 + (Int.tmod t288 3)))) = false := decide_eq_false c37
                          clear c37
                          have H' := Aside0.mk H
                          clear H
                          go_wp2
                          go_roundg k5
                          case measure => have := HJ7.out; have := HK2.out; have := HK3.out; have := HK4.out; have := HK5.out; omega
                          case rel => exact ⟨(x13_5), (wrap64 (x15_4 + 1)), (by first | rfl | (simp; done) | (simp [*]; done)), H', ⟨by have := HJ7.out; have := HK2.out; have := HK3.out; have := HK4.out; have := HK5.out; omega⟩, ⟨zR8 HO_9.out⟩, ⟨by (with_reducible repeat (first | apply Kd.S_alloc | apply Kd.S_drewN | apply Kd.S_drew)); exact HO_11.out⟩, ⟨zR8 HO_13.out⟩, ⟨zB8_0⟩⟩
                        rw [if_pos c37] at H
                        have c37b0 : decide (x16_5 < (wrap64 (1 + (Int.tmod t288 3)))) = true := decide_eq_true c37
                        clear c37
                        by_cases c38 : x13_5.length < 17592186044416
                        rotate_left
                        · rw [if_neg c38] at H
                          exact absurd H (by simp)
                        rw [if_pos c38] at H
                        have LMc38 := Aside0.mk c38
                        clear c38
                        obtain ⟨y322, hy322⟩ : ∃ y_ : List Int, y_ = (x13_5 ++ [x16_5]) := ⟨_, rfl⟩
                        replace H : (laws_FnLoses.l3 k5 (wrap64 (1 + (Int.tmod t287 5))) (wrap64 (1 + (Int.tmod t288 3))) t300 x11_2 y322 x15_4 (wrap64 (x16_5 + 1))) = some r := by first | (rw [hy322]; with_reducible exact H) | (have H2_ := (Option.bind_some _ _).symm.trans H; rw [hy322]; with_reducible exact H2_) | (have H2_ := (Option.bind_some _ _).symm.trans H; with_reducible exact H2_) | with_reducible exact H | (rw [hy322]; exact H) | exact H
                        have Ny322 := Aside0.mk hy322
                        clear hy322
                        have H' := Aside0.mk H
                        clear H
                        go_wp2_with (first | ((with_reducible refine gate_builtin (b := .append) (xs := #[.tmp 87, .tmp 89]) rfl ?_); at_builtin; refine Kd.R_append (Kd.int .i64) (w0 := w) w.heap.size rfl (.tmp 87) (.tmp 89) 25 3 (.int .i64 0) 8 rfl Try.underlying25 info3 rfl (by decide) (by omega) u13 x13_5 x16_5 [.int .i64 x16_5] (fun k_ => some k_ ≠ (v302 : Value).ownBlock) (fun _ => False) rfl rfl ?aP (fun _ hk => hk.elim) ?aF ?aO ?aB ?aS ?aL ?_; (case aP => exact rfl); (case aB => exact (zB8_0)); (case aF => exact (fun k_ hk => Kd.fresh' (Kd.R_lt (zR8 HO_9.out)) k_ hk)); (case aO => exact (zR8 HO_13.out)); (case aS => exact (below_size (zB8_0))); (case aL => have := LMc38.out; omega); intro v323 w39 ho hb hg hat; rw [← Ny322.out] at ho; have n0_ := Aside0.mk (Kd.R_after (ok := (fun _ => True)) (by (with_reducible repeat (first | apply Kd.R_alloc | apply Kd.R_drewN | apply Kd.R_drew)); exact Kd.R_mono HO_9.out (fun _ hk => ⟨trivial, hk⟩)) hg hat); have n1_ := Aside0.mk (Kd.S_after (ok := (fun k_ => some k_ ≠ (v302 : Value).ownBlock)) (by (with_reducible repeat (first | apply Kd.S_alloc | apply Kd.S_drewN | apply Kd.S_drew)); exact HO_11.out) hg hat); have n2_ := Aside0.mk (hb); have n3_ := Aside0.mk (ho); clear HO_9; clear HO_11; clear HB; clear HO_13; have HO_9 := n0_; have HO_11 := n1_; have HB := n2_; have HO324 := n3_; clear n0_ n1_ n2_ n3_; clear ho hb hg hat))
                        go_roundg k5
                        case measure => have := HJ7.out; have := HK2.out; have := HK3.out; have := HK4.out; have := HK5.out; omega
                        case rel => exact ⟨(y322), (wrap64 (x16_5 + 1)), (by first | rfl | (simp; done) | (simp [*]; done)), H', ⟨by have := HJ7.out; have := HK2.out; have := HK3.out; have := HK4.out; have := HK5.out; omega⟩, ⟨by (with_reducible repeat (first | apply Kd.R_alloc | apply Kd.R_drewN | apply Kd.R_drew)); exact Kd.R_mono HO_9.out (fun _ hk => hk.2)⟩, ⟨by (with_reducible repeat (first | apply Kd.S_alloc | apply Kd.S_drewN | apply Kd.S_drew)); exact HO_11.out⟩, ⟨zR8 HO324.out⟩, ⟨zB8_0⟩⟩
                  rw [if_neg c36] at H
                  have c36b0 : decide (x15_4 < 60) = false := decide_eq_false c36
                  clear c36
                  replace H := Option.bind_eq_some_iff.mp H
                  obtain ⟨⟨t325, t326⟩, A400, H⟩ := H
                  replace H : ((impl_AllHalt.f k4 t326).bind fun t331 => (if t331 = true then (if 20 < (t325.length : Int) then (if (rd t325 20) ≥ 1 then (if (rd t325 20) ≤ (wrap64 ((wrap64 (1 + (Int.tmod t288 3))) * (wrap64 (1 + (Int.tmod t287 5))))) then (if (wrap64 (1 + (Int.tmod t288 3))) > 1 then (some true) else (some ((rd t325 20) == (wrap64 (1 + (Int.tmod t287 5)))))) else (some false)) else (some false)) else (none)) else (some false))) = some r := H
                  have A40 := Aside0.mk A400
                  clear A400
                  replace H := Option.bind_eq_some_iff.mp H
                  obtain ⟨t331, A410, H⟩ := H
                  replace H : (if t331 = true then (if 20 < (t325.length : Int) then (if (rd t325 20) ≥ 1 then (if (rd t325 20) ≤ (wrap64 ((wrap64 (1 + (Int.tmod t288 3))) * (wrap64 (1 + (Int.tmod t287 5))))) then (if (wrap64 (1 + (Int.tmod t288 3))) > 1 then (some true) else (some ((rd t325 20) == (wrap64 (1 + (Int.tmod t287 5)))))) else (some false)) else (some false)) else (none)) else (some false)) = some r := H
                  have A41 := Aside0.mk A410
                  clear A410
                  by_cases c42 : t331 = true
                  rotate_left
                  · replace c42 := Bool.eq_false_iff.mpr c42
                    subst c42
                    have H1 : (some false) = some r := by rw [if_neg (show ¬ (false = true) by decide)] at H; exact H
                    clear H
                    have H := H1
                    clear H1
                    obtain rfl := Option.some.inj H
                    obtain ⟨Ao75, co75, eo75⟩ := Kd.R_slice HO_9.out
                    subst eo75
                    obtain ⟨Ao76, co76, eo76⟩ := Kd.S_slice HO_11.out
                    subst eo76
                    obtain ⟨Ao77, co77, eo77⟩ := Kd.R_slice HO_13.out
                    subst eo77
                    go_wp2_with (first | ((with_reducible refine gate_callee (f := 20) rfl ?_); refine goesL_ (some 95) rfl rfl Try.func20 (by kernel_rfl) rfl #[.slice Ao75 t300.length co75, .slice Ao76 x11_2.length co76, .slice Ao77 x13_4.length co77] rfl zT8 ?_; (with_reducible refine (impl_FlatRun.calls k4 _ _ t300 _ _ x11_2 _ _ x13_4 t325 t326 _ ?side1 ?side2 ?side3 ?side4 ?side5 ?side6 A40.out).mono ?_); (case side1 => repeat (first | exact (Kd.R_reads' HO_9.out).2.2 | (with_reducible refine Kd.C_alloc ?_ _) | (with_reducible refine Kd.C_drewN ?_ _) | (with_reducible refine Kd.C_drew ?_))); (case side2 => exact (Kd.R_reads' HO_9.out).2.1); (case side3 => repeat (first | exact (Kd.S_reads' HO_11.out).2.2 | (with_reducible refine Kd.C_alloc ?_ _) | (with_reducible refine Kd.C_drewN ?_ _) | (with_reducible refine Kd.C_drew ?_))); (case side4 => exact (Kd.S_reads' HO_11.out).2.1); (case side5 => repeat (first | exact (Kd.R_reads' HO_13.out).2.2 | (with_reducible refine Kd.C_alloc ?_ _) | (with_reducible refine Kd.C_drewN ?_ _) | (with_reducible refine Kd.C_drew ?_))); (case side6 => exact (Kd.R_reads' HO_13.out).2.1); rintro e w78 ⟨v327, v329, rfl, ho0, ho1, hb⟩; refine ⟨_, rfl, ?_⟩; have n0_ := Aside0.mk (Kd.R_elder' (zR8 HO_9.out) (Kd.R_base ho0) hb); have n1_ := Aside0.mk (Kd.S_mono (Kd.S_told (Kd.S_told (Kd.S_old (by (with_reducible repeat (first | apply Kd.S_alloc | apply Kd.S_drewN | apply Kd.S_drew)); exact HO_11.out) hb) (Kd.R_base ho0)) (Kd.S_base ho1)) (fun _ h_ => h_.1)); have n2_ := Aside0.mk (Kd.R_elder' (zR8 HO_13.out) (Kd.R_base ho0) hb); have n3_ := Aside0.mk (Kd.R_lower (Kd.R_new' (Kd.R_new' ho0 (Kd.R_lt (zR8 HO_9.out))) (Kd.R_lt (zR8 HO_13.out))) (below_size (zB8_0))); have n4_ := Aside0.mk (Kd.S_lower (Kd.S_new' (Kd.S_new' (Kd.S_new' ho1 (Kd.R_lt (zR8 HO_9.out))) (Kd.S_lt (by (with_reducible repeat (first | apply Kd.S_alloc | apply Kd.S_drewN | apply Kd.S_drew)); exact HO_11.out))) (Kd.R_lt (zR8 HO_13.out))) (below_size (zB8_0))); have n5_ := Aside0.mk (below_step (zB8_0) hb); clear HO_9; clear HO_11; clear HO_13; clear HB; have HO_9 := n0_; have HO_11 := n1_; have HO_13 := n2_; have HO328 := n3_; have HO330 := n4_; have HB := n5_; clear n0_ n1_ n2_ n3_ n4_ n5_; (try clear hb); (try clear hb2); (try clear hk); (try clear hi); (try clear ho0); (try clear ho1); obtain ⟨Ao79, co79, eo79⟩ := Kd.S_slice HO330.out; subst eo79) | ((with_reducible refine gate_callee (f := 21) rfl ?_); refine goesL_ (some 99) rfl rfl Try.func21 (by kernel_rfl) rfl #[.slice Ao79 t326.length co79] rfl zT8 ?_; (with_reducible refine (impl_AllHalt.calls k4 _ _ t326 false _ ?side1 ?side2 A41.out).mono ?_); (case side1 => repeat (first | exact (Kd.S_reads' HO330.out).2.2 | (with_reducible refine Kd.C_alloc ?_ _) | (with_reducible refine Kd.C_drewN ?_ _) | (with_reducible refine Kd.C_drew ?_))); (case side2 => exact (Kd.S_reads' HO330.out).2.1); rintro e w80 ⟨rfl, hb⟩; refine ⟨_, rfl, ?_⟩; have n0_ := Aside0.mk (Kd.R_below (zR8 HO_9.out) hb); have n1_ := Aside0.mk (Kd.S_below (by (with_reducible repeat (first | apply Kd.S_alloc | apply Kd.S_drewN | apply Kd.S_drew)); exact HO_11.out) hb); have n2_ := Aside0.mk (Kd.R_below (zR8 HO_13.out) hb); have n3_ := Aside0.mk (Kd.R_below (zR8 HO328.out) hb); have n4_ := Aside0.mk (Kd.S_below (by (with_reducible repeat (first | apply Kd.S_alloc | apply Kd.S_drewN | apply Kd.S_drew)); exact HO330.out) hb); have n5_ := Aside0.mk (below_step (zB8_0) hb); clear HO_9; clear HO_11; clear HO_13; clear HO328; clear HO330; clear HB; have HO_9 := n0_; have HO_11 := n1_; have HO_13 := n2_; have HO328 := n3_; have HO330 := n4_; have HB := n5_; clear n0_ n1_ n2_ n3_ n4_ n5_; (try clear hb); (try clear hb2); (try clear hk); (try clear hi)))
                    go_ret
                    exact ⟨zE8, zB8_0⟩
                  subst c42
                  have H1 : (if 20 < (t325.length : Int) then (if (rd t325 20) ≥ 1 then (if (rd t325 20) ≤ (wrap64 ((wrap64 (1 + (Int.tmod t288 3))) * (wrap64 (1 + (Int.tmod t287 5))))) then (if (wrap64 (1 + (Int.tmod t288 3))) > 1 then (some true) else (some ((rd t325 20) == (wrap64 (1 + (Int.tmod t287 5)))))) else (some false)) else (some false)) else (none)) = some r := by rw [if_pos rfl] at H; exact H
                  clear H
                  have H := H1
                  clear H1
                  by_cases c43 : 20 < (t325.length : Int)
                  rotate_left
                  · rw [if_neg c43] at H
                    exact absurd H (by simp)
                  rw [if_pos c43] at H
                  have c43b0 : decide (20 < (t325.length : Int)) = true := decide_eq_true c43
                  have c43b1 : decide (20 < t325.length) = true := decide_eq_true (by omega)
                  clear c43
                  by_cases c44 : (rd t325 20) ≥ 1
                  rotate_left
                  · rw [if_neg c44] at H
                    have c44b0 : decide (1 ≤ (rd t325 20)) = false := decide_eq_false c44
                    clear c44
                    obtain rfl := Option.some.inj H
                    obtain ⟨Ao68, co68, eo68⟩ := Kd.R_slice HO_9.out
                    subst eo68
                    obtain ⟨Ao69, co69, eo69⟩ := Kd.S_slice HO_11.out
                    subst eo69
                    obtain ⟨Ao70, co70, eo70⟩ := Kd.R_slice HO_13.out
                    subst eo70
                    go_wp2_with (first | ((with_reducible refine gate_callee (f := 20) rfl ?_); refine goesL_ (some 95) rfl rfl Try.func20 (by kernel_rfl) rfl #[.slice Ao68 t300.length co68, .slice Ao69 x11_2.length co69, .slice Ao70 x13_4.length co70] rfl zT8 ?_; (with_reducible refine (impl_FlatRun.calls k4 _ _ t300 _ _ x11_2 _ _ x13_4 t325 t326 _ ?side1 ?side2 ?side3 ?side4 ?side5 ?side6 A40.out).mono ?_); (case side1 => repeat (first | exact (Kd.R_reads' HO_9.out).2.2 | (with_reducible refine Kd.C_alloc ?_ _) | (with_reducible refine Kd.C_drewN ?_ _) | (with_reducible refine Kd.C_drew ?_))); (case side2 => exact (Kd.R_reads' HO_9.out).2.1); (case side3 => repeat (first | exact (Kd.S_reads' HO_11.out).2.2 | (with_reducible refine Kd.C_alloc ?_ _) | (with_reducible refine Kd.C_drewN ?_ _) | (with_reducible refine Kd.C_drew ?_))); (case side4 => exact (Kd.S_reads' HO_11.out).2.1); (case side5 => repeat (first | exact (Kd.R_reads' HO_13.out).2.2 | (with_reducible refine Kd.C_alloc ?_ _) | (with_reducible refine Kd.C_drewN ?_ _) | (with_reducible refine Kd.C_drew ?_))); (case side6 => exact (Kd.R_reads' HO_13.out).2.1); rintro e w71 ⟨v327, v329, rfl, ho0, ho1, hb⟩; refine ⟨_, rfl, ?_⟩; have n0_ := Aside0.mk (Kd.R_elder' (zR8 HO_9.out) (Kd.R_base ho0) hb); have n1_ := Aside0.mk (Kd.S_mono (Kd.S_told (Kd.S_told (Kd.S_old (by (with_reducible repeat (first | apply Kd.S_alloc | apply Kd.S_drewN | apply Kd.S_drew)); exact HO_11.out) hb) (Kd.R_base ho0)) (Kd.S_base ho1)) (fun _ h_ => h_.1)); have n2_ := Aside0.mk (Kd.R_elder' (zR8 HO_13.out) (Kd.R_base ho0) hb); have n3_ := Aside0.mk (Kd.R_lower (Kd.R_new' (Kd.R_new' ho0 (Kd.R_lt (zR8 HO_9.out))) (Kd.R_lt (zR8 HO_13.out))) (below_size (zB8_0))); have n4_ := Aside0.mk (Kd.S_lower (Kd.S_new' (Kd.S_new' (Kd.S_new' ho1 (Kd.R_lt (zR8 HO_9.out))) (Kd.S_lt (by (with_reducible repeat (first | apply Kd.S_alloc | apply Kd.S_drewN | apply Kd.S_drew)); exact HO_11.out))) (Kd.R_lt (zR8 HO_13.out))) (below_size (zB8_0))); have n5_ := Aside0.mk (below_step (zB8_0) hb); clear HO_9; clear HO_11; clear HO_13; clear HB; have HO_9 := n0_; have HO_11 := n1_; have HO_13 := n2_; have HO328 := n3_; have HO330 := n4_; have HB := n5_; clear n0_ n1_ n2_ n3_ n4_ n5_; (try clear hb); (try clear hb2); (try clear hk); (try clear hi); (try clear ho0); (try clear ho1); obtain ⟨Ao72, co72, eo72⟩ := Kd.S_slice HO330.out; subst eo72) | ((with_reducible refine gate_callee (f := 21) rfl ?_); refine goesL_ (some 99) rfl rfl Try.func21 (by kernel_rfl) rfl #[.slice Ao72 t326.length co72] rfl zT8 ?_; (with_reducible refine (impl_AllHalt.calls k4 _ _ t326 true _ ?side1 ?side2 A41.out).mono ?_); (case side1 => repeat (first | exact (Kd.S_reads' HO330.out).2.2 | (with_reducible refine Kd.C_alloc ?_ _) | (with_reducible refine Kd.C_drewN ?_ _) | (with_reducible refine Kd.C_drew ?_))); (case side2 => exact (Kd.S_reads' HO330.out).2.1); rintro e w73 ⟨rfl, hb⟩; refine ⟨_, rfl, ?_⟩; have n0_ := Aside0.mk (Kd.R_below (zR8 HO_9.out) hb); have n1_ := Aside0.mk (Kd.S_below (by (with_reducible repeat (first | apply Kd.S_alloc | apply Kd.S_drewN | apply Kd.S_drew)); exact HO_11.out) hb); have n2_ := Aside0.mk (Kd.R_below (zR8 HO_13.out) hb); have n3_ := Aside0.mk (Kd.R_below (zR8 HO328.out) hb); have n4_ := Aside0.mk (Kd.S_below (by (with_reducible repeat (first | apply Kd.S_alloc | apply Kd.S_drewN | apply Kd.S_drew)); exact HO330.out) hb); have n5_ := Aside0.mk (below_step (zB8_0) hb); clear HO_9; clear HO_11; clear HO_13; clear HO328; clear HO330; clear HB; have HO_9 := n0_; have HO_11 := n1_; have HO_13 := n2_; have HO328 := n3_; have HO330 := n4_; have HB := n5_; clear n0_ n1_ n2_ n3_ n4_ n5_; (try clear hb); (try clear hb2); (try clear hk); (try clear hi); obtain ⟨Ao74, co74, eo74⟩ := Kd.R_slice HO328.out; subst eo74; have p332 : 0 ≤ (20 : Int) := (by omega); have q332 : 20 < (t325.length : Int) := zA8; obtain ⟨ad332, e332, hx332_0⟩ := Kd.at_int (Kd.R_reads' HO328.out).2.2 20 p332 q332; cases e332; (try simp only [show (20 : Int).toNat = 20 from rfl, Nat.reduceMul, Nat.reduceEqDiff, Go.Addr.add, ↓reduceIte] at hx332_0); have qi332 : (20 < t325.length) = True := eq_true (by omega); (try rw [show ((20 : Int)).toNat = 20 from rfl] at hx332_0); replace p332 := eq_true p332; replace q332 := eq_true q332))
                    go_ret
                    exact ⟨zE8, zB8_0⟩
                  rw [if_pos c44] at H
                  have c44b0 : decide (1 ≤ (rd t325 20)) = true := decide_eq_true c44
                  clear c44
                  by_cases c45 : (rd t325 20) ≤ (wrap64 ((wrap64 (1 + (Int.tmod t288 3))) * (wrap64 (1 + (Int.tmod t287 5)))))
                  rotate_left
                  · rw [if_neg c45] at H
                    have c45b0 : decide ((rd t325 20) ≤ (wrap64 ((wrap64 (1 + (Int.tmod t288 3))) * (wrap64 (1 + (Int.tmod t287 5)))))) = false := decide_eq_false c45
                    clear c45
                    obtain rfl := Option.some.inj H
                    obtain ⟨Ao61, co61, eo61⟩ := Kd.R_slice HO_9.out
                    subst eo61
                    obtain ⟨Ao62, co62, eo62⟩ := Kd.S_slice HO_11.out
                    subst eo62
                    obtain ⟨Ao63, co63, eo63⟩ := Kd.R_slice HO_13.out
                    subst eo63
                    go_wp2_with (first | ((with_reducible refine gate_callee (f := 20) rfl ?_); refine goesL_ (some 95) rfl rfl Try.func20 (by kernel_rfl) rfl #[.slice Ao61 t300.length co61, .slice Ao62 x11_2.length co62, .slice Ao63 x13_4.length co63] rfl zT8 ?_; (with_reducible refine (impl_FlatRun.calls k4 _ _ t300 _ _ x11_2 _ _ x13_4 t325 t326 _ ?side1 ?side2 ?side3 ?side4 ?side5 ?side6 A40.out).mono ?_); (case side1 => repeat (first | exact (Kd.R_reads' HO_9.out).2.2 | (with_reducible refine Kd.C_alloc ?_ _) | (with_reducible refine Kd.C_drewN ?_ _) | (with_reducible refine Kd.C_drew ?_))); (case side2 => exact (Kd.R_reads' HO_9.out).2.1); (case side3 => repeat (first | exact (Kd.S_reads' HO_11.out).2.2 | (with_reducible refine Kd.C_alloc ?_ _) | (with_reducible refine Kd.C_drewN ?_ _) | (with_reducible refine Kd.C_drew ?_))); (case side4 => exact (Kd.S_reads' HO_11.out).2.1); (case side5 => repeat (first | exact (Kd.R_reads' HO_13.out).2.2 | (with_reducible refine Kd.C_alloc ?_ _) | (with_reducible refine Kd.C_drewN ?_ _) | (with_reducible refine Kd.C_drew ?_))); (case side6 => exact (Kd.R_reads' HO_13.out).2.1); rintro e w64 ⟨v327, v329, rfl, ho0, ho1, hb⟩; refine ⟨_, rfl, ?_⟩; have n0_ := Aside0.mk (Kd.R_elder' (zR8 HO_9.out) (Kd.R_base ho0) hb); have n1_ := Aside0.mk (Kd.S_mono (Kd.S_told (Kd.S_told (Kd.S_old (by (with_reducible repeat (first | apply Kd.S_alloc | apply Kd.S_drewN | apply Kd.S_drew)); exact HO_11.out) hb) (Kd.R_base ho0)) (Kd.S_base ho1)) (fun _ h_ => h_.1)); have n2_ := Aside0.mk (Kd.R_elder' (zR8 HO_13.out) (Kd.R_base ho0) hb); have n3_ := Aside0.mk (Kd.R_lower (Kd.R_new' (Kd.R_new' ho0 (Kd.R_lt (zR8 HO_9.out))) (Kd.R_lt (zR8 HO_13.out))) (below_size (zB8_0))); have n4_ := Aside0.mk (Kd.S_lower (Kd.S_new' (Kd.S_new' (Kd.S_new' ho1 (Kd.R_lt (zR8 HO_9.out))) (Kd.S_lt (by (with_reducible repeat (first | apply Kd.S_alloc | apply Kd.S_drewN | apply Kd.S_drew)); exact HO_11.out))) (Kd.R_lt (zR8 HO_13.out))) (below_size (zB8_0))); have n5_ := Aside0.mk (below_step (zB8_0) hb); clear HO_9; clear HO_11; clear HO_13; clear HB; have HO_9 := n0_; have HO_11 := n1_; have HO_13 := n2_; have HO328 := n3_; have HO330 := n4_; have HB := n5_; clear n0_ n1_ n2_ n3_ n4_ n5_; (try clear hb); (try clear hb2); (try clear hk); (try clear hi); (try clear ho0); (try clear ho1); obtain ⟨Ao65, co65, eo65⟩ := Kd.S_slice HO330.out; subst eo65) | ((with_reducible refine gate_callee (f := 21) rfl ?_); refine goesL_ (some 99) rfl rfl Try.func21 (by kernel_rfl) rfl #[.slice Ao65 t326.length co65] rfl zT8 ?_; (with_reducible refine (impl_AllHalt.calls k4 _ _ t326 true _ ?side1 ?side2 A41.out).mono ?_); (case side1 => repeat (first | exact (Kd.S_reads' HO330.out).2.2 | (with_reducible refine Kd.C_alloc ?_ _) | (with_reducible refine Kd.C_drewN ?_ _) | (with_reducible refine Kd.C_drew ?_))); (case side2 => exact (Kd.S_reads' HO330.out).2.1); rintro e w66 ⟨rfl, hb⟩; refine ⟨_, rfl, ?_⟩; have n0_ := Aside0.mk (Kd.R_below (zR8 HO_9.out) hb); have n1_ := Aside0.mk (Kd.S_below (by (with_reducible repeat (first | apply Kd.S_alloc | apply Kd.S_drewN | apply Kd.S_drew)); exact HO_11.out) hb); have n2_ := Aside0.mk (Kd.R_below (zR8 HO_13.out) hb); have n3_ := Aside0.mk (Kd.R_below (zR8 HO328.out) hb); have n4_ := Aside0.mk (Kd.S_below (by (with_reducible repeat (first | apply Kd.S_alloc | apply Kd.S_drewN | apply Kd.S_drew)); exact HO330.out) hb); have n5_ := Aside0.mk (below_step (zB8_0) hb); clear HO_9; clear HO_11; clear HO_13; clear HO328; clear HO330; clear HB; have HO_9 := n0_; have HO_11 := n1_; have HO_13 := n2_; have HO328 := n3_; have HO330 := n4_; have HB := n5_; clear n0_ n1_ n2_ n3_ n4_ n5_; (try clear hb); (try clear hb2); (try clear hk); (try clear hi); obtain ⟨Ao67, co67, eo67⟩ := Kd.R_slice HO328.out; subst eo67; have p332 : 0 ≤ (20 : Int) := (by omega); have q332 : 20 < (t325.length : Int) := zA8; obtain ⟨ad332, e332, hx332_0⟩ := Kd.at_int (Kd.R_reads' HO328.out).2.2 20 p332 q332; cases e332; (try simp only [show (20 : Int).toNat = 20 from rfl, Nat.reduceMul, Nat.reduceEqDiff, Go.Addr.add, ↓reduceIte] at hx332_0); have qi332 : (20 < t325.length) = True := eq_true (by omega); (try rw [show ((20 : Int)).toNat = 20 from rfl] at hx332_0); replace p332 := eq_true p332; replace q332 := eq_true q332; have p333 : 0 ≤ (20 : Int) := (by omega); have q333 : 20 < (t325.length : Int) := zA8; obtain ⟨ad333, e333, hx333_0⟩ := Kd.at_int (Kd.R_reads' HO328.out).2.2 20 p333 q333; obtain rfl : ad332 = ad333 := (by injection e333); (try simp only [show (20 : Int).toNat = 20 from rfl, Nat.reduceMul, Nat.reduceEqDiff, Go.Addr.add, ↓reduceIte] at hx333_0); have qi333 : (20 < t325.length) = True := eq_true (by omega); (try rw [show ((20 : Int)).toNat = 20 from rfl] at hx333_0); replace p333 := eq_true p333; replace q333 := eq_true q333))
                    go_ret
                    exact ⟨zE8, zB8_0⟩
                  rw [if_pos c45] at H
                  have c45b0 : decide ((rd t325 20) ≤ (wrap64 ((wrap64 (1 + (Int.tmod t288 3))) * (wrap64 (1 + (Int.tmod t287 5)))))) = true := decide_eq_true c45
                  clear c45
                  by_cases c46 : (wrap64 (1 + (Int.tmod t288 3))) > 1
                  · rw [if_pos c46] at H
                    have c46b0 : decide (1 < (wrap64 (1 + (Int.tmod t288 3)))) = true := decide_eq_true c46
                    clear c46
                    obtain rfl := Option.some.inj H
                    obtain ⟨Ao47, co47, eo47⟩ := Kd.R_slice HO_9.out
                    subst eo47
                    obtain ⟨Ao48, co48, eo48⟩ := Kd.S_slice HO_11.out
                    subst eo48
                    obtain ⟨Ao49, co49, eo49⟩ := Kd.R_slice HO_13.out
                    subst eo49
                    go_wp2_with (first | ((with_reducible refine gate_callee (f := 20) rfl ?_); refine goesL_ (some 95) rfl rfl Try.func20 (by kernel_rfl) rfl #[.slice Ao47 t300.length co47, .slice Ao48 x11_2.length co48, .slice Ao49 x13_4.length co49] rfl zT8 ?_; (with_reducible refine (impl_FlatRun.calls k4 _ _ t300 _ _ x11_2 _ _ x13_4 t325 t326 _ ?side1 ?side2 ?side3 ?side4 ?side5 ?side6 A40.out).mono ?_); (case side1 => repeat (first | exact (Kd.R_reads' HO_9.out).2.2 | (with_reducible refine Kd.C_alloc ?_ _) | (with_reducible refine Kd.C_drewN ?_ _) | (with_reducible refine Kd.C_drew ?_))); (case side2 => exact (Kd.R_reads' HO_9.out).2.1); (case side3 => repeat (first | exact (Kd.S_reads' HO_11.out).2.2 | (with_reducible refine Kd.C_alloc ?_ _) | (with_reducible refine Kd.C_drewN ?_ _) | (with_reducible refine Kd.C_drew ?_))); (case side4 => exact (Kd.S_reads' HO_11.out).2.1); (case side5 => repeat (first | exact (Kd.R_reads' HO_13.out).2.2 | (with_reducible refine Kd.C_alloc ?_ _) | (with_reducible refine Kd.C_drewN ?_ _) | (with_reducible refine Kd.C_drew ?_))); (case side6 => exact (Kd.R_reads' HO_13.out).2.1); rintro e w50 ⟨v327, v329, rfl, ho0, ho1, hb⟩; refine ⟨_, rfl, ?_⟩; have n0_ := Aside0.mk (Kd.R_elder' (zR8 HO_9.out) (Kd.R_base ho0) hb); have n1_ := Aside0.mk (Kd.S_mono (Kd.S_told (Kd.S_told (Kd.S_old (by (with_reducible repeat (first | apply Kd.S_alloc | apply Kd.S_drewN | apply Kd.S_drew)); exact HO_11.out) hb) (Kd.R_base ho0)) (Kd.S_base ho1)) (fun _ h_ => h_.1)); have n2_ := Aside0.mk (Kd.R_elder' (zR8 HO_13.out) (Kd.R_base ho0) hb); have n3_ := Aside0.mk (Kd.R_lower (Kd.R_new' (Kd.R_new' ho0 (Kd.R_lt (zR8 HO_9.out))) (Kd.R_lt (zR8 HO_13.out))) (below_size (zB8_0))); have n4_ := Aside0.mk (Kd.S_lower (Kd.S_new' (Kd.S_new' (Kd.S_new' ho1 (Kd.R_lt (zR8 HO_9.out))) (Kd.S_lt (by (with_reducible repeat (first | apply Kd.S_alloc | apply Kd.S_drewN | apply Kd.S_drew)); exact HO_11.out))) (Kd.R_lt (zR8 HO_13.out))) (below_size (zB8_0))); have n5_ := Aside0.mk (below_step (zB8_0) hb); clear HO_9; clear HO_11; clear HO_13; clear HB; have HO_9 := n0_; have HO_11 := n1_; have HO_13 := n2_; have HO328 := n3_; have HO330 := n4_; have HB := n5_; clear n0_ n1_ n2_ n3_ n4_ n5_; (try clear hb); (try clear hb2); (try clear hk); (try clear hi); (try clear ho0); (try clear ho1); obtain ⟨Ao51, co51, eo51⟩ := Kd.S_slice HO330.out; subst eo51) | ((with_reducible refine gate_callee (f := 21) rfl ?_); refine goesL_ (some 99) rfl rfl Try.func21 (by kernel_rfl) rfl #[.slice Ao51 t326.length co51] rfl zT8 ?_; (with_reducible refine (impl_AllHalt.calls k4 _ _ t326 true _ ?side1 ?side2 A41.out).mono ?_); (case side1 => repeat (first | exact (Kd.S_reads' HO330.out).2.2 | (with_reducible refine Kd.C_alloc ?_ _) | (with_reducible refine Kd.C_drewN ?_ _) | (with_reducible refine Kd.C_drew ?_))); (case side2 => exact (Kd.S_reads' HO330.out).2.1); rintro e w52 ⟨rfl, hb⟩; refine ⟨_, rfl, ?_⟩; have n0_ := Aside0.mk (Kd.R_below (zR8 HO_9.out) hb); have n1_ := Aside0.mk (Kd.S_below (by (with_reducible repeat (first | apply Kd.S_alloc | apply Kd.S_drewN | apply Kd.S_drew)); exact HO_11.out) hb); have n2_ := Aside0.mk (Kd.R_below (zR8 HO_13.out) hb); have n3_ := Aside0.mk (Kd.R_below (zR8 HO328.out) hb); have n4_ := Aside0.mk (Kd.S_below (by (with_reducible repeat (first | apply Kd.S_alloc | apply Kd.S_drewN | apply Kd.S_drew)); exact HO330.out) hb); have n5_ := Aside0.mk (below_step (zB8_0) hb); clear HO_9; clear HO_11; clear HO_13; clear HO328; clear HO330; clear HB; have HO_9 := n0_; have HO_11 := n1_; have HO_13 := n2_; have HO328 := n3_; have HO330 := n4_; have HB := n5_; clear n0_ n1_ n2_ n3_ n4_ n5_; (try clear hb); (try clear hb2); (try clear hk); (try clear hi); obtain ⟨Ao53, co53, eo53⟩ := Kd.R_slice HO328.out; subst eo53; have p332 : 0 ≤ (20 : Int) := (by omega); have q332 : 20 < (t325.length : Int) := zA8; obtain ⟨ad332, e332, hx332_0⟩ := Kd.at_int (Kd.R_reads' HO328.out).2.2 20 p332 q332; cases e332; (try simp only [show (20 : Int).toNat = 20 from rfl, Nat.reduceMul, Nat.reduceEqDiff, Go.Addr.add, ↓reduceIte] at hx332_0); have qi332 : (20 < t325.length) = True := eq_true (by omega); (try rw [show ((20 : Int)).toNat = 20 from rfl] at hx332_0); replace p332 := eq_true p332; replace q332 := eq_true q332; have p333 : 0 ≤ (20 : Int) := (by omega); have q333 : 20 < (t325.length : Int) := zA8; obtain ⟨ad333, e333, hx333_0⟩ := Kd.at_int (Kd.R_reads' HO328.out).2.2 20 p333 q333; obtain rfl : ad332 = ad333 := (by injection e333); (try simp only [show (20 : Int).toNat = 20 from rfl, Nat.reduceMul, Nat.reduceEqDiff, Go.Addr.add, ↓reduceIte] at hx333_0); have qi333 : (20 < t325.length) = True := eq_true (by omega); (try rw [show ((20 : Int)).toNat = 20 from rfl] at hx333_0); replace p333 := eq_true p333; replace q333 := eq_true q333))
                    go_ret
                    exact ⟨zE8, zB8_0⟩
                  rw [if_neg c46] at H
                  have c46b0 : decide (1 < (wrap64 (1 + (Int.tmod t288 3)))) = false := decide_eq_false c46
                  clear c46
                  obtain rfl := Option.some.inj H
                  obtain ⟨Ao54, co54, eo54⟩ := Kd.R_slice HO_9.out
                  subst eo54
                  obtain ⟨Ao55, co55, eo55⟩ := Kd.S_slice HO_11.out
                  subst eo55
                  obtain ⟨Ao56, co56, eo56⟩ := Kd.R_slice HO_13.out
                  subst eo56
                  go_wp2_with (first | ((with_reducible refine gate_callee (f := 20) rfl ?_); refine goesL_ (some 95) rfl rfl Try.func20 (by kernel_rfl) rfl #[.slice Ao54 t300.length co54, .slice Ao55 x11_2.length co55, .slice Ao56 x13_4.length co56] rfl zT8 ?_; (with_reducible refine (impl_FlatRun.calls k4 _ _ t300 _ _ x11_2 _ _ x13_4 t325 t326 _ ?side1 ?side2 ?side3 ?side4 ?side5 ?side6 A40.out).mono ?_); (case side1 => repeat (first | exact (Kd.R_reads' HO_9.out).2.2 | (with_reducible refine Kd.C_alloc ?_ _) | (with_reducible refine Kd.C_drewN ?_ _) | (with_reducible refine Kd.C_drew ?_))); (case side2 => exact (Kd.R_reads' HO_9.out).2.1); (case side3 => repeat (first | exact (Kd.S_reads' HO_11.out).2.2 | (with_reducible refine Kd.C_alloc ?_ _) | (with_reducible refine Kd.C_drewN ?_ _) | (with_reducible refine Kd.C_drew ?_))); (case side4 => exact (Kd.S_reads' HO_11.out).2.1); (case side5 => repeat (first | exact (Kd.R_reads' HO_13.out).2.2 | (with_reducible refine Kd.C_alloc ?_ _) | (with_reducible refine Kd.C_drewN ?_ _) | (with_reducible refine Kd.C_drew ?_))); (case side6 => exact (Kd.R_reads' HO_13.out).2.1); rintro e w57 ⟨v327, v329, rfl, ho0, ho1, hb⟩; refine ⟨_, rfl, ?_⟩; have n0_ := Aside0.mk (Kd.R_elder' (zR8 HO_9.out) (Kd.R_base ho0) hb); have n1_ := Aside0.mk (Kd.S_mono (Kd.S_told (Kd.S_told (Kd.S_old (by (with_reducible repeat (first | apply Kd.S_alloc | apply Kd.S_drewN | apply Kd.S_drew)); exact HO_11.out) hb) (Kd.R_base ho0)) (Kd.S_base ho1)) (fun _ h_ => h_.1)); have n2_ := Aside0.mk (Kd.R_elder' (zR8 HO_13.out) (Kd.R_base ho0) hb); have n3_ := Aside0.mk (Kd.R_lower (Kd.R_new' (Kd.R_new' ho0 (Kd.R_lt (zR8 HO_9.out))) (Kd.R_lt (zR8 HO_13.out))) (below_size (zB8_0))); have n4_ := Aside0.mk (Kd.S_lower (Kd.S_new' (Kd.S_new' (Kd.S_new' ho1 (Kd.R_lt (zR8 HO_9.out))) (Kd.S_lt (by (with_reducible repeat (first | apply Kd.S_alloc | apply Kd.S_drewN | apply Kd.S_drew)); exact HO_11.out))) (Kd.R_lt (zR8 HO_13.out))) (below_size (zB8_0))); have n5_ := Aside0.mk (below_step (zB8_0) hb); clear HO_9; clear HO_11; clear HO_13; clear HB; have HO_9 := n0_; have HO_11 := n1_; have HO_13 := n2_; have HO328 := n3_; have HO330 := n4_; have HB := n5_; clear n0_ n1_ n2_ n3_ n4_ n5_; (try clear hb); (try clear hb2); (try clear hk); (try clear hi); (try clear ho0); (try clear ho1); obtain ⟨Ao58, co58, eo58⟩ := Kd.S_slice HO330.out; subst eo58) | ((with_reducible refine gate_callee (f := 21) rfl ?_); refine goesL_ (some 99) rfl rfl Try.func21 (by kernel_rfl) rfl #[.slice Ao58 t326.length co58] rfl zT8 ?_; (with_reducible refine (impl_AllHalt.calls k4 _ _ t326 true _ ?side1 ?side2 A41.out).mono ?_); (case side1 => repeat (first | exact (Kd.S_reads' HO330.out).2.2 | (with_reducible refine Kd.C_alloc ?_ _) | (with_reducible refine Kd.C_drewN ?_ _) | (with_reducible refine Kd.C_drew ?_))); (case side2 => exact (Kd.S_reads' HO330.out).2.1); rintro e w59 ⟨rfl, hb⟩; refine ⟨_, rfl, ?_⟩; have n0_ := Aside0.mk (Kd.R_below (zR8 HO_9.out) hb); have n1_ := Aside0.mk (Kd.S_below (by (with_reducible repeat (first | apply Kd.S_alloc | apply Kd.S_drewN | apply Kd.S_drew)); exact HO_11.out) hb); have n2_ := Aside0.mk (Kd.R_below (zR8 HO_13.out) hb); have n3_ := Aside0.mk (Kd.R_below (zR8 HO328.out) hb); have n4_ := Aside0.mk (Kd.S_below (by (with_reducible repeat (first | apply Kd.S_alloc | apply Kd.S_drewN | apply Kd.S_drew)); exact HO330.out) hb); have n5_ := Aside0.mk (below_step (zB8_0) hb); clear HO_9; clear HO_11; clear HO_13; clear HO328; clear HO330; clear HB; have HO_9 := n0_; have HO_11 := n1_; have HO_13 := n2_; have HO328 := n3_; have HO330 := n4_; have HB := n5_; clear n0_ n1_ n2_ n3_ n4_ n5_; (try clear hb); (try clear hb2); (try clear hk); (try clear hi); obtain ⟨Ao60, co60, eo60⟩ := Kd.R_slice HO328.out; subst eo60; have p332 : 0 ≤ (20 : Int) := (by omega); have q332 : 20 < (t325.length : Int) := zA8; obtain ⟨ad332, e332, hx332_0⟩ := Kd.at_int (Kd.R_reads' HO328.out).2.2 20 p332 q332; cases e332; (try simp only [show (20 : Int).toNat = 20 from rfl, Nat.reduceMul, Nat.reduceEqDiff, Go.Addr.add, ↓reduceIte] at hx332_0); have qi332 : (20 < t325.length) = True := eq_true (by omega); (try rw [show ((20 : Int)).toNat = 20 from rfl] at hx332_0); replace p332 := eq_true p332; replace q332 := eq_true q332; have p333 : 0 ≤ (20 : Int) := (by omega); have q333 : 20 < (t325.length : Int) := zA8; obtain ⟨ad333, e333, hx333_0⟩ := Kd.at_int (Kd.R_reads' HO328.out).2.2 20 p333 q333; obtain rfl : ad332 = ad333 := (by injection e333); (try simp only [show (20 : Int).toNat = 20 from rfl, Nat.reduceMul, Nat.reduceEqDiff, Go.Addr.add, ↓reduceIte] at hx333_0); have qi333 : (20 < t325.length) = True := eq_true (by omega); (try rw [show ((20 : Int)).toNat = 20 from rfl] at hx333_0); replace p333 := eq_true p333; replace q333 := eq_true q333; have p334 : 0 ≤ (20 : Int) := (by omega); have q334 : 20 < (t325.length : Int) := zA8; obtain ⟨ad334, e334, hx334_0⟩ := Kd.at_int (Kd.R_reads' HO328.out).2.2 20 p334 q334; obtain rfl : ad332 = ad334 := (by injection e334); (try simp only [show (20 : Int).toNat = 20 from rfl, Nat.reduceMul, Nat.reduceEqDiff, Go.Addr.add, ↓reduceIte] at hx334_0); have qi334 : (20 < t325.length) = True := eq_true (by omega); (try rw [show ((20 : Int)).toNat = 20 from rfl] at hx334_0); replace p334 := eq_true p334; replace q334 := eq_true q334))
                  go_ret
                  exact ⟨zE8, zB8_0⟩

/-- THE ONE PURE STATEMENT of laws_FnLoses: yours. -/
def laws_FnLoses.Pure : Prop := ∀ (l0 : List Int), l0.length ≤ maxLen → l0.length * 1 ≤ 140737488351232 → (∀ x ∈ l0, (Lit.int .u8 x).wf = true) → ∃ k, laws_FnLoses.f k l0 = some true
theorem laws_FnLoses.walk (P : laws_FnLoses.Pure) (a0 : Option Addr) (len0 cap0 : Nat) (z0 : List Int) (w : World) (w0 : (a0 = none ∧ len0 = 0 ∧ cap0 = 0 ∧ z0 = []) ∨ ∃ x, a0 = some x ∧ len0 ≤ cap0 ∧ cap0 ≤ maxLen ∧ z0.length = cap0 ∧ (∀ i, i < z0.length → w.cell? (x.add i) = some (.int .u8 (z0.getD i 0))) ∧ ∀ n ∈ z0, (Lit.int .u8 n).wf = true) (y0 : len0 * 1 ≤ 140737488351232) :
    Calls Try.prog 4 #[.slice a0 len0 cap0] w fun e w' => e = .returned (.bool true) ∧ Below w.heap.size w w' := by
  obtain ⟨l0, rfl, hr0, hm0, hw0, hc0⟩ := ReadsInt.ofRowC w0
  obtain ⟨k, h⟩ := P l0 hm0 y0 hw0
  refine (laws_FnLoses.calls k _ _ l0 true w (Kd.C_of_reads (d := (0 : Int)) (h1 := fun _ => rfl) hr0) hc0 h).mono ?_
  rintro e w' ⟨rfl, hd⟩
  exact ⟨rfl, hd⟩

end Go.Proofs.Ytddncenhddiemaa.PFnLoses
