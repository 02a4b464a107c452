-- made by wip/tools/myprint.py out of the seat's translation
import Derived.Test.YtgbjengnkbomoaaPFnKnowsx0
import Derived.Test.YtgbjengnkbomoaaPFnKnowsx1
import Derived.Test.YtgbjengnkbomoaaPFnKnowsx2
import Derived.Test.YtgbjengnkbomoaaPFnKnowsx3
import Derived.Test.YtgbjengnkbomoaaPFnKnowsx4
import Derived.Test.YtgbjengnkbomoaaPFnKnowsx5
import Derived.Test.YtgbjengnkbomoaaPFnKnowsx6
import Derived.Test.YtgbjengnkbomoaaPFnKnowsx7
import Derived.Test.YtgbjengnkbomoaaPFnKnowsx8
import Derived.Test.YtgbjengnkbomoaaPFnKnowsx9
import Derived.Test.YtgbjengnkbomoaaPFnKnowsx10
import Derived.Test.YtgbjengnkbomoaaPFnKnowsx11
import Derived.Test.YtgbjengnkbomoaaPFnKnowsx12
import Derived.Test.YtgbjengnkbomoaaPFnClocksOfx0
import Derived.Test.YtgbjengnkbomoaaPFnClocksOfx1
namespace Go.Proofs.Ytgbjengnkbomoaa.PFnClocksOf
open Go.RowKit Go.Proofs.YtgbjengnkbomoaaW.PrintWords Go.Proofs.YtgbjengnkbomoaaW.PrintLast Go.Proofs.YtgbjengnkbomoaaW.PrintMore Go.Proofs.Ytgbjengnkbomoaa.PFnKnows
attribute [local go_sem] max2_int min2_int max_two min_two max_three min_three max_four min_four   -- for this text's walks alone
set_option linter.unusedVariables false
set_option linter.unusedSimpArgs false
set_option maxHeartbeats 8000000
set_option maxRecDepth 100000
abbrev zq14_0 : Array Bool := #[false, false, false, false, false, false, false, false, false, false, false, false, false, false, false, false, false, false, false, false, false, false, false, false, false, false, false, false, false, false, false, false, false]
abbrev zq14_1 : Array Bool := #[true, false, false, false, false, false, false, false, false, false, false, false, false, false, false, false, false, false, false, false, false, false, false, false, false, false, false, false, false, false, false, false, false]
abbrev zq14_2 : Array Bool := #[true, true, false, false, false, false, false, false, false, false, false, false, false, false, false, false, false, false, false, false, false, false, false, false, false, false, false, false, false, false, false, false, false]
abbrev zq14_3 : Array Bool := #[true, true, true, false, false, false, false, false, false, false, false, false, false, false, false, false, false, false, false, false, false, false, false, false, false, false, false, false, false, false, false, false, false]
abbrev zq14_4 : Array Bool := #[true, true, true, false, true, false, false, false, false, false, false, false, false, false, false, false, false, false, false, false, false, false, false, false, false, false, false, false, false, false, false, false, false]
abbrev zq14_5 : Array Bool := #[true, true, true, false, true, true, false, false, false, false, false, false, false, false, false, false, false, false, false, false, false, false, false, false, false, false, false, false, false, false, false, false, false]
abbrev zq14_6 : Array Bool := #[true, true, true, false, true, true, true, false, false, false, false, false, false, false, false, false, false, false, false, false, false, false, false, false, false, false, false, false, false, false, false, false, false]
abbrev zq14_7 : Array Bool := #[true, true, true, true, true, true, true, false, false, false, false, false, false, false, false, false, false, false, false, false, false, false, false, false, false, false, false, false, false, false, false, false, false]
abbrev zq14_8 : Array Bool := #[true, true, true, true, true, true, true, true, false, false, false, false, false, false, false, false, false, false, false, false, false, false, false, false, false, false, false, false, false, false, false, false, false]
abbrev zq14_9 : Array Bool := #[true, true, true, true, true, true, true, true, true, false, false, false, false, false, false, false, false, false, false, false, false, false, false, false, false, false, false, false, false, false, false, false, false]
abbrev zq14_10 : Array Bool := #[true, true, true, true, true, true, true, true, true, true, false, false, false, false, false, false, false, false, false, false, false, false, false, false, false, false, false, false, false, false, false, false, false]
abbrev zq14_11 : Array Bool := #[true, true, true, true, true, true, true, true, true, true, true, false, false, false, false, false, false, false, false, false, false, false, false, false, false, false, false, false, false, false, false, false, false]
abbrev zq14_12 : Array Bool := #[true, true, true, true, true, true, true, true, true, true, true, true, false, false, false, false, false, false, false, false, false, false, false, false, false, false, false, false, false, false, false, false, false]
abbrev zq14_13 : Array Bool := #[true, true, true, true, true, true, true, true, true, true, true, true, true, false, false, false, false, false, false, false, false, false, false, false, false, false, false, false, false, false, false, false, false]
abbrev zq14_14 : Array Bool := #[true, true, true, true, true, true, true, true, true, true, true, true, true, true, false, false, false, false, false, false, false, false, false, false, false, false, false, false, false, false, false, false, false]
abbrev zq14_15 : Array Bool := #[true, true, true, true, true, true, true, true, true, true, true, true, true, true, false, false, true, false, false, false, false, false, false, false, false, false, false, false, false, false, false, false, false]
abbrev zq14_16 : Array Bool := #[true, true, true, true, true, true, true, true, true, true, true, true, true, true, true, false, true, false, false, false, false, false, false, false, false, false, false, false, false, false, false, false, false]
abbrev zq14_17 : Array Bool := #[true, true, true, true, true, true, true, true, true, true, true, true, true, true, true, true, true, false, false, false, false, false, false, false, false, false, false, false, false, false, false, false, false]
abbrev zq14_18 : Array Bool := #[true, true, true, true, true, true, true, true, true, true, true, true, true, true, true, true, true, true, false, false, false, false, false, false, false, false, false, false, false, false, false, false, false]
abbrev zq14_19 : Array Bool := #[true, true, true, true, true, true, true, true, true, true, true, true, true, true, true, true, true, true, true, false, false, false, false, false, false, false, false, false, false, false, false, false, false]
abbrev zq14_20 : Array Bool := #[true, true, true, true, true, true, true, true, true, true, true, true, true, true, true, true, true, true, true, true, false, false, false, false, false, false, false, false, false, false, false, false, false]
abbrev zq14_21 : Array Bool := #[true, true, true, true, true, true, true, true, true, true, true, true, true, true, true, true, true, true, true, true, true, false, false, false, false, false, false, false, false, false, false, false, false]
abbrev zq14_22 : Array Bool := #[true, true, true, true, true, true, true, true, true, true, true, true, true, true, true, true, true, true, true, true, true, true, false, false, false, false, false, false, false, false, false, false, false]
abbrev zq14_23 : Array Bool := #[true, true, true, true, true, true, true, true, true, true, true, true, true, true, true, true, true, true, true, true, true, true, true, false, false, false, false, false, false, false, false, false, false]
abbrev zq14_24 : Array Bool := #[true, true, true, true, true, true, true, true, true, true, true, true, true, true, true, true, true, true, true, true, true, true, true, true, true, true, true, true, false, false, false, false, false]
abbrev zq14_25 : Array Bool := #[true, true, true, true, true, true, true, true, true, true, true, true, true, true, true, true, true, true, true, true, true, true, true, true, true, true, true, true, true, false, false, false, false]
abbrev zq14_26 : Array Bool := #[true, true, true, true, true, true, true, true, true, true, true, true, true, true, true, true, true, true, true, true, true, true, true, true, true, true, true, true, true, true, false, false, false]
abbrev zq14_27 : Array Bool := #[true, true, true, true, true, true, true, true, true, true, true, true, true, true, true, true, true, true, true, true, true, true, true, true, true, true, true, true, true, true, true, false, false]
abbrev zq14_28 : Array Bool := #[true, true, true, true, true, true, true, true, true, true, true, true, true, true, true, true, true, true, true, true, true, true, true, true, true, true, true, true, true, true, true, true, false]
abbrev zq14_29 : Array Bool := #[true, true, true, true, true, true, true, true, true, true, true, true, true, true, true, true, true, true, true, true, true, true, true, true, true, true, true, true, true, true, true, true, true]
abbrev zq14_30 : Array Bool := #[true, true, true, true, true, true, true, true, true, true, true, true, true, true, true, true, true, true, true, true, true, true, true, true, false, false, false, false, false, false, false, false, false]
abbrev zq14_31 : Array Bool := #[true, true, true, true, true, true, true, true, true, true, true, true, true, true, true, true, true, true, true, true, true, true, true, true, true, false, false, false, false, false, false, false, false]
abbrev zq14_32 : Array Bool := #[true, true, true, true, true, true, true, true, true, true, true, true, true, true, true, true, true, true, true, true, true, true, true, true, true, true, false, false, false, false, false, false, false]
abbrev zq14_33 : Array Bool := #[true, true, true, true, true, true, true, true, true, true, true, true, true, true, true, true, true, true, true, true, true, true, true, true, true, true, true, false, false, false, false, false, false]
abbrev zq14_34 : Array Bool := #[false, false, false, false, false, false, false, false, false]
abbrev zq14_35 : Array Bool := #[true, false, false, false, false, false, false, false, false]
abbrev zq14_36 : Array Bool := #[true, true, false, false, false, false, false, false, false]
abbrev zq14_37 : Array Bool := #[true, true, true, false, false, false, false, false, false]
abbrev zq14_38 : Array Bool := #[true, true, true, false, true, false, false, false, false]
abbrev zq14_39 : Array Bool := #[true, true, true, false, true, true, false, false, false]
abbrev zq14_40 : Array Bool := #[true, true, true, false, true, true, true, false, false]
abbrev zq14_41 : Array Bool := #[true, true, true, true, true, true, true, false, false]
abbrev zq14_42 : Array Bool := #[true, true, true, true, true, true, true, true, false]
abbrev zq14_43 : Array Bool := #[true, true, true, true, true, true, true, true, true]

/-! ### laws_FnClocksOf: function 4 -/
mutual
def laws_FnClocksOf.l0 : Nat → Int → List (S31) → List (List Int) → List (List Int) → Int → Option (Bool)
 | 0, _, _, _, _, _ => none
 | k + 1, x3, x4, x5, x6, x7 => if x7 < (x5.length : Int) then (if 0 ≤ x7 then (if x7 < (x6.length : Int) then ((laws_sameInts.f k (rd_L3 x5 x7) (rd_L3 x6 x7)).bind fun t708 => (if t708 = true then (if ((rd_L3 x5 x7).length : Int) = x3 then (if x7 < (x4.length : Int) then (if 0 ≤ ((rd_T31 x4 x7).f0) then (if ((rd_T31 x4 x7).f0) < ((rd_L3 x5 x7).length : Int) then (laws_FnClocksOf.j1 k x3 x4 x5 x6 x7 (decide ((rd (rd_L3 x5 x7) ((rd_T31 x4 x7).f0)) < 1))) else (none)) else (none)) else (none)) else (laws_FnClocksOf.j1 k x3 x4 x5 x6 x7 true)) else (laws_FnClocksOf.j1 k x3 x4 x5 x6 x7 true))) else (none)) else (none)) else (if (x5.length : Int) = (x4.length : Int) then (some true) else (some ((x5.length : Int) == 0)))
def laws_FnClocksOf.j1 : Nat → Int → List (S31) → List (List Int) → List (List Int) → Int → Bool → Option (Bool)
 | 0, _, _, _, _, _, _ => none
 | k + 1, x3, x4, x5, x6, x7, x65 => if x65 = true then (some false) else (laws_FnClocksOf.l1 k x3 x4 x5 x6 x7 0)
def laws_FnClocksOf.l1 : Nat → Int → List (S31) → List (List Int) → List (List Int) → Int → Int → Option (Bool)
 | 0, _, _, _, _, _, _ => none
 | k + 1, x3, x4, x5, x6, x7, x8 => if x8 < x7 then (if 0 ≤ x8 then (if x8 < (x5.length : Int) then (if 0 ≤ x7 then (if x7 < (x5.length : Int) then ((laws_sameInts.f k (rd_L3 x5 x8) (rd_L3 x5 x7)).bind fun t715 => (if t715 = true then (some false) else (laws_FnClocksOf.l1 k x3 x4 x5 x6 x7 (wrap64 (x8 + 1))))) else (none)) else (none)) else (none)) else (none)) else (laws_FnClocksOf.l0 k x3 x4 x5 x6 (wrap64 (x7 + 1)))
end
def laws_FnClocksOf.f (k : Nat) (l0 : List Int) : Option (Bool) := (laws_big.f l0).bind fun t695 => (if t695 = true then (some true) else ((spec_DrawClocks.f k l0).bind fun bt696 => ((impl_Clocks.f k bt696.1 bt696.2).bind fun t700 => ((spec_Clocks.f k bt696.1 bt696.2).bind fun t703 => (if (t700.length : Int) = (t703.length : Int) then (laws_FnClocksOf.l0 k bt696.1 bt696.2 t700 t703 0) else (some false))))))
theorem laws_FnClocksOf.mono_l : ∀ k, (∀ y0 y1 y2 y3 y4, LeO (laws_FnClocksOf.l0 k y0 y1 y2 y3 y4) (laws_FnClocksOf.l0 (k + 1) y0 y1 y2 y3 y4)) ∧ (∀ y0 y1 y2 y3 y4 y5, LeO (laws_FnClocksOf.j1 k y0 y1 y2 y3 y4 y5) (laws_FnClocksOf.j1 (k + 1) y0 y1 y2 y3 y4 y5)) ∧ (∀ y0 y1 y2 y3 y4 y5, LeO (laws_FnClocksOf.l1 k y0 y1 y2 y3 y4 y5) (laws_FnClocksOf.l1 (k + 1) y0 y1 y2 y3 y4 y5))
 | 0 => ⟨fun _ _ _ _ _ r h => by simp [laws_FnClocksOf.l0] at h, fun _ _ _ _ _ _ r h => by simp [laws_FnClocksOf.j1] at h, fun _ _ _ _ _ _ r h => by simp [laws_FnClocksOf.l1] at h⟩
 | k + 1 => by
  obtain ⟨ih0, ih1, ih2⟩ := laws_FnClocksOf.mono_l k
  refine ⟨?_, ?_, ?_⟩
  ·intros
   unfold laws_FnClocksOf.l0
   have mo0 := @impl_Clocks.mono
   have mo1 := @laws_sameInts.mono
   have mo2 := @spec_Clocks.mono
   have mo3 := @spec_DrawClocks.mono
   exact zL
  ·intros
   unfold laws_FnClocksOf.j1
   have mo0 := @impl_Clocks.mono
   have mo1 := @laws_sameInts.mono
   have mo2 := @spec_Clocks.mono
   have mo3 := @spec_DrawClocks.mono
   exact zL
  ·intros
   unfold laws_FnClocksOf.l1
   have mo0 := @impl_Clocks.mono
   have mo1 := @laws_sameInts.mono
   have mo2 := @spec_Clocks.mono
   have mo3 := @spec_DrawClocks.mono
   exact zL
theorem laws_FnClocksOf.mono : ∀ a0 k, LeO (laws_FnClocksOf.f k a0) (laws_FnClocksOf.f (k + 1) a0) := by
 intro a0 k
 obtain ⟨ih0, ih1, ih2⟩ := laws_FnClocksOf.mono_l k
 unfold laws_FnClocksOf.f
 have mo0 := @impl_Clocks.mono
 have mo1 := @laws_sameInts.mono
 have mo2 := @spec_Clocks.mono
 have mo3 := @spec_DrawClocks.mono
 exact zL
def laws_FnClocksOf.T11 : Bool × List (List Nat × List Nat) := (true, [([], []), ([], []), ([0, 1], [0, 1]), ([2], [2]), ([], []), ([], []), ([4, 5], [4, 5]), ([6], [6]), ([3, 7], [3, 7]), ([8], [8]), ([9, 8], [9]), ([10], [10]), ([10], [10]), ([11, 12, 10], [10, 11, 12]), ([13, 10], [10, 13]), ([14, 10], [10, 14]), ([10], [10]), ([15, 16, 10], [10, 15, 16]), ([10, 17], [10, 17]), ([18, 10], [18]), ([19], [19]), ([19], [19]), ([20, 21, 19], [19, 20, 21]), ([22, 19], [19, 22]), ([19], [19]), ([19], [19]), ([24, 25, 19], [19, 24, 25]), ([26, 19], [19, 26]), ([27, 19], [19, 27]), ([23, 28, 19], [19, 23, 28]), ([29, 19], [19, 29]), ([30, 19], [19, 30]), ([19, 31], [19, 31])])
def laws_FnClocksOf.B11 : List Nat := [0, 0, 3, 7, 0, 0, 48, 112, 255, 511, 1023, 2047, 2047, 8191, 16383, 32767, 2047, 131071, 262143, 524287, 1048575, 1048575, 4194303, 8388607, 1048575, 1048575, 51380223, 118489087, 252706815, 536870911, 1073741823, 2147483647, 4294967295]
theorem laws_FnClocksOf.tab11 : rtab .any (opsOf Try.f4 11) = laws_FnClocksOf.T11 := by kernel_rfl
theorem laws_FnClocksOf.bits11 : waitsOk laws_FnClocksOf.T11.2 laws_FnClocksOf.B11 = true := by kernel_rfl
def laws_FnClocksOf.T16 : Bool × List (List Nat × List Nat) := (true, [([], []), ([], []), ([0, 1], [0, 1]), ([2], [2]), ([], []), ([], []), ([4, 5], [4, 5]), ([6], [6]), ([3, 7], [3, 7])])
def laws_FnClocksOf.B16 : List Nat := [0, 0, 3, 7, 0, 0, 48, 112, 255]
theorem laws_FnClocksOf.tab16 : rtab .any (opsOf Try.f4 16) = laws_FnClocksOf.T16 := by kernel_rfl
theorem laws_FnClocksOf.bits16 : waitsOk laws_FnClocksOf.T16.2 laws_FnClocksOf.B16 = true := by kernel_rfl
theorem laws_FnClocksOf.calls (k : Nat) (A0 : Option Addr) (c0 : Nat) (l0 : List Int) (r : Bool) (w : World) (hr0 : Kd.C (Kd.int .u8) w A0 l0.length l0) (hc0 : l0.length ≤ c0) (h : laws_FnClocksOf.f k l0 = some r) :
  Calls Try.prog 4 #[.slice A0 l0.length c0] w fun e w' => e = .returned (.bool r) ∧ Below w.heap.size w w' := by
 have HR0 := zM hr0
 have HC0 := zM hc0
 clear hr0 hc0
 have HB := zM (Below.refl w.heap.size w)
 unfold laws_FnClocksOf.f at h
 have H := h
 clear h
 replace H := zO H
 obtain ⟨t695, A2, H⟩ := H
 by_cases c3 : t695 = true
 ·subst c3
  rw [if_pos rfl] at H
  obtain rfl := Option.some.inj H
  go_enter Try.func4, Try.ntmps4
  go_wp2_with (first | ((with_reducible refine gate_callee (f := 8) rfl ?_); refine goesL_ (some 10) rfl rfl Try.func8 (by kernel_rfl) rfl #[.slice A0 l0.length c0] rfl zT ?_; (with_reducible refine (laws_big.calls _ _ l0 true _ ?side1 ?side2 A2.1).mono ?_); (case side1 => exact zC HR0.1); (case side2 => exact HC0.1); rintro e w' ⟨rfl, ⟨nd, rfl⟩⟩; refine ⟨_, rfl, ?_⟩))
  go_ret
  exact ⟨zE, zB12⟩
 replace c3 := Bool.eq_false_iff.mpr c3
 subst c3
 rw [if_neg zF] at H
 replace H := zO H
 obtain ⟨⟨t696, t697⟩, A4, H⟩ := H
 try dsimp only at H
 replace H := zO H
 obtain ⟨t700, A5, H⟩ := H
 replace H := zO H
 obtain ⟨t703, A6, H⟩ := H
 by_cases c7 : (t700.length : Int) = (t703.length : Int)
 rotate_left
 ·rw [if_neg c7] at H
  have c7b0 : ((t700.length : Int) == (t703.length : Int)) = false := beq_eq_false_iff_ne.mpr c7
  have c7b1 : ((t700.length : Int) != (t703.length : Int)) = true := bne_iff_ne.mpr c7
  have c7b2 : (t700.length == t703.length) = false := by first | simpa using c7 | (simp at c7 ⊢; omega)
  obtain rfl := Option.some.inj H
  go_enter Try.func4, Try.ntmps4
  go_wp2_with (first | ((with_reducible refine gate_callee (f := 8) rfl ?_); refine goesL_ (some 10) rfl rfl Try.func8 (by kernel_rfl) rfl #[.slice A0 l0.length c0] rfl zT ?_; (with_reducible refine (laws_big.calls _ _ l0 false _ ?side1 ?side2 A2.1).mono ?_); (case side1 => exact zC HR0.1); (case side2 => exact HC0.1); rintro e w' ⟨rfl, ⟨nd, rfl⟩⟩; refine ⟨_, rfl, ?_⟩) | ((with_reducible refine gate_callee (f := 11) rfl ?_); refine goesL_ (some 13) rfl rfl Try.func11 (by kernel_rfl) rfl #[.slice A0 l0.length c0] rfl zT ?_; (with_reducible refine (spec_DrawClocks.calls k _ _ l0 t696 t697 _ ?side1 ?side2 A4.1).mono ?_); (case side1 => exact zC HR0.1); (case side2 => exact HC0.1); rintro e w38 ⟨v698, rfl, ho0, hb⟩; refine ⟨_, rfl, ?_⟩; have HO699 := zM (Kd.R_lower ho0 (below_size zB12)); replace HB := zM (below_step zB12 hb); clear hb ho0; obtain ⟨Ao39, co39, eo39⟩ := Kd.R_slice HO699.1; subst eo39) | ((with_reducible refine gate_callee (f := 12) rfl ?_); refine goesL_ (some 18) rfl rfl Try.func12 (by kernel_rfl) rfl #[.int .i64 t696, .slice Ao39 t697.length co39] rfl zT ?_; (with_reducible refine (impl_Clocks.calls k t696 _ _ t697 t700 _ ?side1 ?side2 A5.1).mono ?_); (case side1 => exact zC (Kd.R_reads' HO699.1).2.2); (case side2 => exact (Kd.R_reads' HO699.1).2.1); rintro e w40 ⟨v701, rfl, ho0, hb⟩; refine ⟨_, rfl, ?_⟩; replace HO699 := zM (Kd.R_below (zR HO699.1) hb); have HO702 := zM (Kd.S_lower ho0 (below_size zB12)); replace HB := zM (below_step zB12 hb); clear hb ho0) | ((with_reducible refine gate_callee (f := 13) rfl ?_); refine goesL_ (some 21) rfl rfl Try.func13 (by kernel_rfl) rfl #[.int .i64 t696, .slice Ao39 t697.length co39] rfl zT ?_; (with_reducible refine (spec_Clocks.calls k t696 _ _ t697 t703 _ ?side1 ?side2 A6.1).mono ?_); (case side1 => exact zC (Kd.R_reads' HO699.1).2.2); (case side2 => exact (Kd.R_reads' HO699.1).2.1); rintro e w41 ⟨v704, rfl, ho0, hb⟩; refine ⟨_, rfl, ?_⟩; replace HO699 := zM (Kd.R_below (zR HO699.1) hb); have HO705 := zM (Kd.S_lower (Kd.S_new' ho0 (Kd.S_lt (zS HO702.1))) (below_size zB12)); replace HO702 := zM (Kd.S_elder' (zS HO702.1) (Kd.S_base ho0) hb); replace HB := zM (below_step zB12 hb); clear hb ho0; obtain ⟨Ao42, co42, eo42⟩ := Kd.S_slice HO702.1; subst eo42; obtain ⟨Ao43, co43, eo43⟩ := Kd.S_slice HO705.1; subst eo43))
  go_ret
  exact ⟨zE, zB12⟩
 rw [if_pos c7] at H
 have c7b0 : ((t700.length : Int) == (t703.length : Int)) = true := beq_iff_eq.mpr c7
 have c7b1 : ((t700.length : Int) != (t703.length : Int)) = false := bne_eq_false_iff_eq.mpr c7
 have c7b2 : (t700.length == t703.length) = true := by first | simpa using c7 | (simp at c7 ⊢; omega)
 clear c7
 have H' := zM H
 clear H
 go_enter Try.func4, Try.ntmps4
 go_wp2_with (first | ((with_reducible refine gate_callee (f := 8) rfl ?_); refine goesL_ (some 10) rfl rfl Try.func8 (by kernel_rfl) rfl #[.slice A0 l0.length c0] rfl zT ?_; (with_reducible refine (laws_big.calls _ _ l0 false _ ?side1 ?side2 A2.1).mono ?_); (case side1 => exact zC HR0.1); (case side2 => exact HC0.1); rintro e w' ⟨rfl, ⟨nd, rfl⟩⟩; refine ⟨_, rfl, ?_⟩) | ((with_reducible refine gate_callee (f := 11) rfl ?_); refine goesL_ (some 13) rfl rfl Try.func11 (by kernel_rfl) rfl #[.slice A0 l0.length c0] rfl zT ?_; (with_reducible refine (spec_DrawClocks.calls k _ _ l0 t696 t697 _ ?side1 ?side2 A4.1).mono ?_); (case side1 => exact zC HR0.1); (case side2 => exact HC0.1); rintro e w8 ⟨v698, rfl, ho0, hb⟩; refine ⟨_, rfl, ?_⟩; have HO699 := zM (Kd.R_lower ho0 (below_size zB12)); replace HB := zM (below_step zB12 hb); clear hb ho0; obtain ⟨Ao9, co9, eo9⟩ := Kd.R_slice HO699.1; subst eo9) | ((with_reducible refine gate_callee (f := 12) rfl ?_); refine goesL_ (some 18) rfl rfl Try.func12 (by kernel_rfl) rfl #[.int .i64 t696, .slice Ao9 t697.length co9] rfl zT ?_; (with_reducible refine (impl_Clocks.calls k t696 _ _ t697 t700 _ ?side1 ?side2 A5.1).mono ?_); (case side1 => exact zC (Kd.R_reads' HO699.1).2.2); (case side2 => exact (Kd.R_reads' HO699.1).2.1); rintro e w10 ⟨v701, rfl, ho0, hb⟩; refine ⟨_, rfl, ?_⟩; replace HO699 := zM (Kd.R_below (zR HO699.1) hb); have HO702 := zM (Kd.S_lower ho0 (below_size zB12)); replace HB := zM (below_step zB12 hb); clear hb ho0) | ((with_reducible refine gate_callee (f := 13) rfl ?_); refine goesL_ (some 21) rfl rfl Try.func13 (by kernel_rfl) rfl #[.int .i64 t696, .slice Ao9 t697.length co9] rfl zT ?_; (with_reducible refine (spec_Clocks.calls k t696 _ _ t697 t703 _ ?side1 ?side2 A6.1).mono ?_); (case side1 => exact zC (Kd.R_reads' HO699.1).2.2); (case side2 => exact (Kd.R_reads' HO699.1).2.1); rintro e w11 ⟨v704, rfl, ho0, hb⟩; refine ⟨_, rfl, ?_⟩; replace HO699 := zM (Kd.R_below (zR HO699.1) hb); have HO705 := zM (Kd.S_lower (Kd.S_new' ho0 (Kd.S_lt (zS HO702.1))) (below_size zB12)); replace HO702 := zM (Kd.S_elder' (zS HO702.1) (Kd.S_base ho0) hb); replace HB := zM (below_step zB12 hb); clear hb ho0; obtain ⟨Ao12, co12, eo12⟩ := Kd.S_slice HO702.1; subst eo12; obtain ⟨Ao13, co13, eo13⟩ := Kd.S_slice HO705.1; subst eo13))
 go_loopg [7] k (fun kq v7 w' => ∃ (x7_1 : Int), v7 = .int .i64 x7_1 ∧ Aside0 (laws_FnClocksOf.l0 kq t696 t697 t700 t703 x7_1 = some r) ∧ Aside0 (kq ≤ k) ∧ Aside0 (Kd.R k31 31 w' w.heap.size (fun _ => True) (.slice Ao9 t697.length co9) t697) ∧ Aside0 (Kd.S (Kd.slice 3 (Kd.int .i64)) 29 w' w.heap.size (fun k_ => some k_ ≠ ((.slice Ao13 t703.length co13) : Value).ownBlock) (.slice Ao12 t700.length co12) t700) ∧ Aside0 (Kd.S (Kd.slice 3 (Kd.int .i64)) 29 w' w.heap.size (fun k_ => some k_ ≠ ((.slice Ao12 t700.length co12) : Value).ownBlock) (.slice Ao13 t703.length co13) t703) ∧ Aside0 (Below w.heap.size w w'))
 case atStart => exact ⟨(0), zJJ, H', ⟨Nat.le_refl _⟩, ⟨zR HO699.1⟩, ⟨by refine zrS ?_; exact Kd.S_mono HO702.1 (fun _ hk => hk.2)⟩, ⟨by refine zrS ?_; exact Kd.S_mono HO705.1 (fun _ hk => hk.2)⟩, ⟨zB12⟩⟩
 case round =>
  clear H'
  try clear c1
  try clear p2
  try clear c3
  try clear c4
  try clear c7
  try clear c7b0
  try clear c7b1
  try clear c7b2
  try clear c8
  try clear c11
  try clear c12
  try clear c13
  obtain ⟨x7_1, rfl, HA, HK1, HO_4, HO_5, HO_6, HB⟩ := hrel
  cases gk with
  | zero => exact absurd HA.1 (by simp [laws_FnClocksOf.l0])
  | succ k1 =>
   have H := HA.1
   clear HA
   simp only [laws_FnClocksOf.l0] at H
   by_cases c14 : x7_1 < (t700.length : Int)
   rotate_left
   ·rw [if_neg c14] at H
    have c14b0 := decide_eq_false c14
    clear c14
    by_cases c37 : (t700.length : Int) = (t697.length : Int)
    rotate_left
    ·rw [if_neg c37] at H
     have c37b0 : ((t700.length : Int) == (t697.length : Int)) = false := beq_eq_false_iff_ne.mpr c37
     have c37b1 : ((t700.length : Int) != (t697.length : Int)) = true := bne_iff_ne.mpr c37
     have c37b2 : (t700.length == t697.length) = false := by first | simpa using c37 | (simp at c37 ⊢; omega)
     obtain rfl := Option.some.inj H
     go_wp2
     go_ret
     exact ⟨zE, zB12⟩
    rw [if_pos c37] at H
    have c37b0 : ((t700.length : Int) == (t697.length : Int)) = true := beq_iff_eq.mpr c37
    have c37b1 : ((t700.length : Int) != (t697.length : Int)) = false := bne_eq_false_iff_eq.mpr c37
    have c37b2 : (t700.length == t697.length) = true := by first | simpa using c37 | (simp at c37 ⊢; omega)
    clear c37
    obtain rfl := Option.some.inj H
    go_wp2
    go_ret
    exact ⟨zE, zB12⟩
   rw [if_pos c14] at H
   have c14b0 := decide_eq_true c14
   clear c14
   have HC15 := zM H
   clear H
   go_upto_region 11 with (fail)
   go_cut [65] (fun v65 wc => ∃ (kq : Nat) (x65_14 : Bool), v65 = .bool x65_14 ∧ Aside0 (laws_FnClocksOf.j1 kq t696 t697 t700 t703 x7_1 x65_14 = some r) ∧ Aside0 (kq ≤ k1) ∧ Aside0 (Kd.R k31 31 wc w.heap.size (fun _ => True) (.slice Ao9 t697.length co9) t697) ∧ Aside0 (Kd.S (Kd.slice 3 (Kd.int .i64)) 29 wc w.heap.size (fun k_ => some k_ ≠ ((.slice Ao13 t703.length co13) : Value).ownBlock) (.slice Ao12 t700.length co12) t700) ∧ Aside0 (Kd.S (Kd.slice 3 (Kd.int .i64)) 29 wc w.heap.size (fun k_ => some k_ ≠ ((.slice Ao12 t700.length co12) : Value).ownBlock) (.slice Ao13 t703.length co13) t703) ∧ Aside0 (Below w.heap.size w wc))
   case first =>
    have H := HC15.1
    clear HC15
    by_cases c16 : 0 ≤ x7_1
    rotate_left
    ·rw [if_neg c16] at H
     exact absurd H (by simp)
    rw [if_pos c16] at H
    have c16b0 := decide_eq_true c16
    clear c16
    (first | rw [c16b0] | (simp only [i64_w, i32_w]; rw [c16b0]) | skip)
    by_cases c17 : x7_1 < (t703.length : Int)
    rotate_left
    ·rw [if_neg c17] at H
     exact absurd H (by simp)
    rw [if_pos c17] at H
    have c17b0 := decide_eq_true c17
    clear c17
    replace H := zO H
    obtain ⟨t708, A18, H⟩ := H
    by_cases c19 : t708 = true
    rotate_left
    ·replace c19 := Bool.eq_false_iff.mpr c19
     subst c19
     rw [if_neg zF] at H
     have H' := zM H
     clear H
     try go_wp2
     replace HO_4 := zM (Kd.R_drew HO_4.1)
     replace HO_5 := zM (Kd.S_drew HO_5.1)
     replace HO_6 := zM (Kd.S_drew HO_6.1)
     replace HB := zM (below_drew1 HB.1)
     have p706 : 0 ≤ (x7_1 : Int) := zA
     have q706 : x7_1 < (t700.length : Int) := zA
     obtain ⟨ad706, A706_0, c706_0, e706, hx706_0, hl706_0, hi706_0⟩ := at_L3 (Kd.S_reads' HO_5.1).2.2 x7_1 p706 q706
     cases e706
     obtain ⟨ce706, hce706, hMe706, hcc706⟩ := Kd.S_get HO_5.1 [] x7_1 p706 (by first | exact q706 | exact zA | (have e_ := (Kd.S_reads' HO_5.1).1; omega))
     obtain ⟨ve706_0, rfl, ge706_0⟩ := hMe706
     have hv706_0 := hcc706 0 _ rfl
     rw [Nat.add_zero, show ((Kd.slice 3 (Kd.int .i64))).sz = 1 from rfl, Nat.mul_one] at hv706_0
     replace hv706_0 := Option.some.inj (hv706_0.symm.trans hx706_0)
     rw [hv706_0] at ge706_0
     have HL706_0 := zM (show Kd.R (Kd.int .i64) 3 _ _ _ _ (rd_L3 t700 x7_1) from ge706_0)
     clear hv706_0 ge706_0 hcc706 hce706
     have HR706_0 := zM hi706_0
     have HC706_0 := zM hl706_0
     clear hi706_0 hl706_0
     replace p706 := eq_true p706
     replace q706 := eq_true q706
     have p707 : 0 ≤ (x7_1 : Int) := zA
     have q707 : x7_1 < (t703.length : Int) := zA
     obtain ⟨ad707, A707_0, c707_0, e707, hx707_0, hl707_0, hi707_0⟩ := at_L3 (Kd.S_reads' HO_6.1).2.2 x7_1 p707 q707
     cases e707
     obtain ⟨ce707, hce707, hMe707, hcc707⟩ := Kd.S_get HO_6.1 [] x7_1 p707 (by first | exact q707 | exact zA | (have e_ := (Kd.S_reads' HO_6.1).1; omega))
     obtain ⟨ve707_0, rfl, ge707_0⟩ := hMe707
     have hv707_0 := hcc707 0 _ rfl
     rw [Nat.add_zero, show ((Kd.slice 3 (Kd.int .i64))).sz = 1 from rfl, Nat.mul_one] at hv707_0
     replace hv707_0 := Option.some.inj (hv707_0.symm.trans hx707_0)
     rw [hv707_0] at ge707_0
     have HL707_0 := zM (show Kd.R (Kd.int .i64) 3 _ _ _ _ (rd_L3 t703 x7_1) from ge707_0)
     clear hv707_0 ge707_0 hcc707 hce707
     have HR707_0 := zM hi707_0
     have HC707_0 := zM hl707_0
     clear hi707_0 hl707_0
     replace p707 := eq_true p707
     replace q707 := eq_true q707
     refine start_ (n := 33) (S := fun w' => w'.cell? (ad706.add (x7_1).toNat) = some (.slice A706_0 (rd_L3 t700 x7_1).length c706_0) ∧ w'.cell? (ad707.add (x7_1).toNat) = some (.slice A707_0 (rd_L3 t703 x7_1).length c707_0)) (ds := []) zq14_0 (by kernel_rfl) rfl rfl ⟨hx706_0, hx707_0⟩ (fun hHeld => ?_); refine with_tabW laws_FnClocksOf.tab11 laws_FnClocksOf.bits11 (fun HT_ HW_ => ?_)
     generalize wr.drew = w26 at HO_4 HO_5 HO_6 HB HL706_0 HL707_0 HR706_0 HR707_0 hx706_0 hx707_0 hHeld ⊢
     refine pure_ (i := 0) (N := some 33) (v := ?_) (a' := ?_) zq14_1 rfl rfl (any_of HT_.1 (by kernel_rfl)) (fun _ _ _ h => h) (Or.inl ⟨by rfl, ?_⟩) ?_ ?_
     rotate_left
     ·intro w'
      go_simp
      with_reducible rfl
     rotate_left
     ·exact zV
     refine pure_ (i := 1) (N := some 34) (v := ?_) (a' := ?_) zq14_2 rfl rfl (any_of HT_.1 (by kernel_rfl)) (fun _ _ _ h => h) (Or.inl ⟨by rfl, ?_⟩) ?_ ?_
     rotate_left
     ·intro w'
      go_simp
      with_reducible rfl
     rotate_left
     ·exact zV
     refine pure_ (i := 2) (N := some 35) (v := ?_) (a' := ?_) zq14_3 rfl rfl (any_of HT_.1 (by kernel_rfl)) (fun _ _ _ h => h) (Or.inl ⟨by rfl, ?_⟩) ?_ ?_
     rotate_left
     ·intro w'
      go_simp
      with_reducible rfl
     rotate_left
     ·exact zV
     refine pure_ (i := 4) (N := some 37) (v := ?_) (a' := ?_) zq14_4 rfl rfl (any_of HT_.1 (by kernel_rfl)) (fun _ _ _ h => h) (Or.inl ⟨by rfl, ?_⟩) ?_ ?_
     rotate_left
     ·intro w'
      go_simp
      with_reducible rfl
     rotate_left
     ·exact zV
     refine pure_ (i := 5) (N := some 38) (v := ?_) (a' := ?_) zq14_5 rfl rfl (any_of HT_.1 (by kernel_rfl)) (fun _ _ _ h => h) (Or.inl ⟨by rfl, ?_⟩) ?_ ?_
     rotate_left
     ·intro w'
      go_simp
      with_reducible rfl
     rotate_left
     ·exact zV
     refine pure_ (i := 6) (N := some 39) (v := ?_) (a' := ?_) zq14_6 rfl rfl (any_of HT_.1 (by kernel_rfl)) (fun _ _ _ h => h) (Or.inl ⟨by rfl, ?_⟩) ?_ ?_
     rotate_left
     ·intro w'
      go_simp
      with_reducible rfl
     rotate_left
     ·exact zV
     refine take_ (i := 3) (N := some 36) (v := ?_) (a' := ?_) zq14_7 rfl rfl (take_ofW HT_.1 HW_.1 (by kernel_rfl)) (fun _ _ _ h => h) (Or.inl ⟨by rfl, ?_⟩) hHeld ?_ ?_
     rotate_left
     ·rintro w' ⟨s0, s1⟩
      go_simp
      with_reducible rfl
     rotate_left
     ·exact zV
     refine take_ (i := 7) (N := some 40) (v := ?_) (a' := ?_) zq14_8 rfl rfl (take_ofW HT_.1 HW_.1 (by kernel_rfl)) (fun _ _ _ h => h) (Or.inl ⟨by rfl, ?_⟩) hHeld ?_ ?_
     rotate_left
     ·rintro w' ⟨s0, s1⟩
      go_simp
      with_reducible rfl
     rotate_left
     ·exact zV
     refine one_ (i := 8) (N := some 41) zq14_9 rfl rfl (one_of HT_.1 (by kernel_rfl)) (by decide) (fun K hK => ?_)
     refine goes_ Try.func14 (by kernel_rfl) rfl #[.slice A706_0 (rd_L3 t700 x7_1).length c706_0, .slice A707_0 (rd_L3 t703 x7_1).length c707_0] (by rfl) rfl rfl zT ?_
     with_reducible refine (laws_sameInts.calls k1 _ _ (rd_L3 t700 x7_1) _ _ (rd_L3 t703 x7_1) false _ ?side1 ?side2 ?side3 ?side4 A18.1).mono ?_
     (case side1 => exact zC HR706_0.1)
     (case side2 => exact HC706_0.1)
     (case side3 => exact zC HR707_0.1)
     (case side4 => exact HC707_0.1)
     rintro e w' ⟨rfl, ⟨nd, rfl⟩⟩
     refine ⟨_, rfl, ?_⟩
     refine hK.out _ _ ⟨hHeld.1, hHeld.2⟩ (fun hHeld => ?_)
     clear hK K
     refine norm_ (a' := ?_) ?_ ?_
     rotate_left
     ·show Act.put _ (some 41) _ = _
      simp only [Act.put, List.setIfInBounds_toArray, List.set_cons_zero, List.set_cons_succ, i64_w, i32_w]
      rfl
     refine pure_ (i := 9) (N := some 42) (v := ?_) (a' := ?_) zq14_10 rfl rfl (any_of HT_.1 (by kernel_rfl)) (fun _ _ _ h => h) (Or.inl ⟨by rfl, ?_⟩) ?_ ?_
     rotate_left
     ·intro w'
      go_simp
      with_reducible rfl
     rotate_left
     ·exact zV
     refine pure_ (i := 10) (N := some 43) (v := ?_) (a' := ?_) zq14_11 rfl rfl (any_of HT_.1 (by kernel_rfl)) (fun _ _ _ h => h) (Or.inl ⟨by rfl, ?_⟩) ?_ ?_
     rotate_left
     ·intro w'
      go_simp
      with_reducible rfl
     rotate_left
     ·exact zV
     refine pure_ (i := 11) (N := some 44) (v := undef) (a' := ?_) zq14_12 rfl rfl (any_of HT_.1 (by kernel_rfl)) (fun _ _ _ h => h) (Or.inr ⟨by rfl, rfl⟩) ?_ ?_
     rotate_left
     ·exact zV
     refine pure_ (i := 12) (N := some 45) (v := undef) (a' := ?_) zq14_13 rfl rfl (any_of HT_.1 (by kernel_rfl)) (fun _ _ _ h => h) (Or.inr ⟨by rfl, rfl⟩) ?_ ?_
     rotate_left
     ·exact zV
     refine pure_ (i := 13) (N := some 46) (v := undef) (a' := ?_) zq14_14 rfl rfl (any_of HT_.1 (by kernel_rfl)) (fun _ _ _ h => h) (Or.inr ⟨by rfl, rfl⟩) ?_ ?_
     rotate_left
     ·exact zV
     refine pure_ (i := 14) (N := some 47) (v := undef) (a' := ?_) #[true, true, true, true, true, true, true, true, true, true, true, true, true, true, true, false, false, false, false, false, false, false, false, false, false, false, false, false, false, false, false, false, false] rfl rfl (any_of HT_.1 (by kernel_rfl)) (fun _ _ _ h => h) (Or.inr ⟨by rfl, rfl⟩) ?_ ?_
     rotate_left
     ·exact zV
     refine pure_ (i := 15) (N := some 48) (v := undef) (a' := ?_) #[true, true, true, true, true, true, true, true, true, true, true, true, true, true, true, true, false, false, false, false, false, false, false, false, false, false, false, false, false, false, false, false, false] rfl rfl (any_of HT_.1 (by kernel_rfl)) (fun _ _ _ h => h) (Or.inr ⟨by rfl, rfl⟩) ?_ ?_
     rotate_left
     ·exact zV
     refine pure_ (i := 16) (N := some 49) (v := undef) (a' := ?_) zq14_17 rfl rfl (any_of HT_.1 (by kernel_rfl)) (fun _ _ _ h => h) (Or.inr ⟨by rfl, rfl⟩) ?_ ?_
     rotate_left
     ·exact zV
     refine pure_ (i := 17) (N := some 50) (v := undef) (a' := ?_) zq14_18 rfl rfl (any_of HT_.1 (by kernel_rfl)) (fun _ _ _ h => h) (Or.inr ⟨by rfl, rfl⟩) ?_ ?_
     rotate_left
     ·exact zV
     refine pure_ (i := 18) (N := some 51) (v := ?_) (a' := ?_) zq14_19 rfl rfl (any_of HT_.1 (by kernel_rfl)) (fun _ _ _ h => h) (Or.inl ⟨by rfl, ?_⟩) ?_ ?_
     rotate_left
     ·intro w'
      go_simp
      with_reducible rfl
     rotate_left
     ·exact zV
     refine pure_ (i := 19) (N := some 52) (v := ?_) (a' := ?_) zq14_20 rfl rfl (any_of HT_.1 (by kernel_rfl)) (fun _ _ _ h => h) (Or.inl ⟨by rfl, ?_⟩) ?_ ?_
     rotate_left
     ·intro w'
      go_simp
      with_reducible rfl
     rotate_left
     ·exact zV
     refine pure_ (i := 20) (N := some 53) (v := undef) (a' := ?_) zq14_21 rfl rfl (any_of HT_.1 (by kernel_rfl)) (fun _ _ _ h => h) (Or.inr ⟨by rfl, rfl⟩) ?_ ?_
     rotate_left
     ·exact zV
     refine pure_ (i := 21) (N := some 54) (v := undef) (a' := ?_) zq14_22 rfl rfl (any_of HT_.1 (by kernel_rfl)) (fun _ _ _ h => h) (Or.inr ⟨by rfl, rfl⟩) ?_ ?_
     rotate_left
     ·exact zV
     refine pure_ (i := 22) (N := some 55) (v := undef) (a' := ?_) zq14_23 rfl rfl (any_of HT_.1 (by kernel_rfl)) (fun _ _ _ h => h) (Or.inr ⟨by rfl, rfl⟩) ?_ ?_
     rotate_left
     ·exact zV
     refine pure_ (i := 23) (N := some 56) (v := undef) (a' := ?_) zq14_30 rfl rfl (any_of HT_.1 (by kernel_rfl)) (fun _ _ _ h => h) (Or.inr ⟨by rfl, rfl⟩) ?_ ?_
     rotate_left
     ·exact zV
     refine pure_ (i := 24) (N := some 57) (v := undef) (a' := ?_) zq14_31 rfl rfl (any_of HT_.1 (by kernel_rfl)) (fun _ _ _ h => h) (Or.inr ⟨by rfl, rfl⟩) ?_ ?_
     rotate_left
     ·exact zV
     refine pure_ (i := 25) (N := some 58) (v := undef) (a' := ?_) zq14_32 rfl rfl (any_of HT_.1 (by kernel_rfl)) (fun _ _ _ h => h) (Or.inr ⟨by rfl, rfl⟩) ?_ ?_
     rotate_left
     ·exact zV
     refine pure_ (i := 26) (N := some 59) (v := undef) (a' := ?_) zq14_33 rfl rfl (any_of HT_.1 (by kernel_rfl)) (fun _ _ _ h => h) (Or.inr ⟨by rfl, rfl⟩) ?_ ?_
     rotate_left
     ·exact zV
     refine pure_ (i := 27) (N := some 60) (v := undef) (a' := ?_) zq14_24 rfl rfl (any_of HT_.1 (by kernel_rfl)) (fun _ _ _ h => h) (Or.inr ⟨by rfl, rfl⟩) ?_ ?_
     rotate_left
     ·exact zV
     refine pure_ (i := 28) (N := some 61) (v := undef) (a' := ?_) zq14_25 rfl rfl (any_of HT_.1 (by kernel_rfl)) (fun _ _ _ h => h) (Or.inr ⟨by rfl, rfl⟩) ?_ ?_
     rotate_left
     ·exact zV
     refine pure_ (i := 29) (N := some 62) (v := undef) (a' := ?_) zq14_26 rfl rfl (any_of HT_.1 (by kernel_rfl)) (fun _ _ _ h => h) (Or.inr ⟨by rfl, rfl⟩) ?_ ?_
     rotate_left
     ·exact zV
     refine pure_ (i := 30) (N := some 63) (v := undef) (a' := ?_) zq14_27 rfl rfl (any_of HT_.1 (by kernel_rfl)) (fun _ _ _ h => h) (Or.inr ⟨by rfl, rfl⟩) ?_ ?_
     rotate_left
     ·exact zV
     refine pure_ (i := 31) (N := some 64) (v := undef) (a' := ?_) zq14_28 rfl rfl (any_of HT_.1 (by kernel_rfl)) (fun _ _ _ h => h) (Or.inr ⟨by rfl, rfl⟩) ?_ ?_
     rotate_left
     ·exact zV
     refine pure_ (i := 32) (N := some 65) (v := ?_) (a' := ?_) zq14_29 rfl rfl (any_of HT_.1 (by kernel_rfl)) (fun _ _ _ h => h) (Or.inl ⟨by rfl, ?_⟩) ?_ ?_
     rotate_left
     ·intro w'
      go_simp
      with_reducible rfl
     rotate_left
     ·exact zV
     refine done_ (done_of HT_.1 (by kernel_rfl)) ?_
     try go_wp2
     go_meet
     case rel => exact ⟨_, (true), zJJ, H', ⟨by have := HK1.1; first | omega | exact Nat.le_refl _⟩, ⟨zR HO_4.1⟩, ⟨zS HO_5.1⟩, ⟨zS HO_6.1⟩, ⟨zB12⟩⟩
    subst c19
    rw [if_pos rfl] at H
    by_cases c20 : ((rd_L3 t700 x7_1).length : Int) = t696
    rotate_left
    ·rw [if_neg c20] at H
     have c20b0 : (((rd_L3 t700 x7_1).length : Int) == t696) = false := beq_eq_false_iff_ne.mpr c20
     have c20b1 : (((rd_L3 t700 x7_1).length : Int) != t696) = true := bne_iff_ne.mpr c20
     have H' := zM H
     clear H
     try go_wp2
     replace HO_4 := zM (Kd.R_drew HO_4.1)
     replace HO_5 := zM (Kd.S_drew HO_5.1)
     replace HO_6 := zM (Kd.S_drew HO_6.1)
     replace HB := zM (below_drew1 HB.1)
     have p706 : 0 ≤ (x7_1 : Int) := zA
     have q706 : x7_1 < (t700.length : Int) := zA
     obtain ⟨ad706, A706_0, c706_0, e706, hx706_0, hl706_0, hi706_0⟩ := at_L3 (Kd.S_reads' HO_5.1).2.2 x7_1 p706 q706
     cases e706
     obtain ⟨ce706, hce706, hMe706, hcc706⟩ := Kd.S_get HO_5.1 [] x7_1 p706 (by first | exact q706 | exact zA | (have e_ := (Kd.S_reads' HO_5.1).1; omega))
     obtain ⟨ve706_0, rfl, ge706_0⟩ := hMe706
     have hv706_0 := hcc706 0 _ rfl
     rw [Nat.add_zero, show ((Kd.slice 3 (Kd.int .i64))).sz = 1 from rfl, Nat.mul_one] at hv706_0
     replace hv706_0 := Option.some.inj (hv706_0.symm.trans hx706_0)
     rw [hv706_0] at ge706_0
     have HL706_0 := zM (show Kd.R (Kd.int .i64) 3 _ _ _ _ (rd_L3 t700 x7_1) from ge706_0)
     clear hv706_0 ge706_0 hcc706 hce706
     have HR706_0 := zM hi706_0
     have HC706_0 := zM hl706_0
     clear hi706_0 hl706_0
     replace p706 := eq_true p706
     replace q706 := eq_true q706
     have p707 : 0 ≤ (x7_1 : Int) := zA
     have q707 : x7_1 < (t703.length : Int) := zA
     obtain ⟨ad707, A707_0, c707_0, e707, hx707_0, hl707_0, hi707_0⟩ := at_L3 (Kd.S_reads' HO_6.1).2.2 x7_1 p707 q707
     cases e707
     obtain ⟨ce707, hce707, hMe707, hcc707⟩ := Kd.S_get HO_6.1 [] x7_1 p707 (by first | exact q707 | exact zA | (have e_ := (Kd.S_reads' HO_6.1).1; omega))
     obtain ⟨ve707_0, rfl, ge707_0⟩ := hMe707
     have hv707_0 := hcc707 0 _ rfl
     rw [Nat.add_zero, show ((Kd.slice 3 (Kd.int .i64))).sz = 1 from rfl, Nat.mul_one] at hv707_0
     replace hv707_0 := Option.some.inj (hv707_0.symm.trans hx707_0)
     rw [hv707_0] at ge707_0
     have HL707_0 := zM (show Kd.R (Kd.int .i64) 3 _ _ _ _ (rd_L3 t703 x7_1) from ge707_0)
     clear hv707_0 ge707_0 hcc707 hce707
     have HR707_0 := zM hi707_0
     have HC707_0 := zM hl707_0
     clear hi707_0 hl707_0
     replace p707 := eq_true p707
     replace q707 := eq_true q707
     have p709 : 0 ≤ (x7_1 : Int) := zA
     have q709 : x7_1 < (t700.length : Int) := zA
     obtain ⟨ad709, A709_0, c709_0, e709, hx709_0, hl709_0, hi709_0⟩ := at_L3 (Kd.S_reads' HO_5.1).2.2 x7_1 p709 q709
     obtain rfl : ad706 = ad709 := (by injection e709)
     obtain ⟨ce709, hce709, hMe709, hcc709⟩ := Kd.S_get HO_5.1 [] x7_1 p709 (by first | exact q709 | exact zA | (have e_ := (Kd.S_reads' HO_5.1).1; omega))
     obtain ⟨ve709_0, rfl, ge709_0⟩ := hMe709
     have hv709_0 := hcc709 0 _ rfl
     rw [Nat.add_zero, show ((Kd.slice 3 (Kd.int .i64))).sz = 1 from rfl, Nat.mul_one] at hv709_0
     replace hv709_0 := Option.some.inj (hv709_0.symm.trans hx709_0)
     rw [hv709_0] at ge709_0
     have HL709_0 := zM (show Kd.R (Kd.int .i64) 3 _ _ _ _ (rd_L3 t700 x7_1) from ge709_0)
     clear hv709_0 ge709_0 hcc709 hce709
     have HR709_0 := zM hi709_0
     have HC709_0 := zM hl709_0
     clear hi709_0 hl709_0
     replace p709 := eq_true p709
     replace q709 := eq_true q709
     have ea_ := Option.some.inj (hx706_0.symm.trans hx709_0)
     injection ea_ with ea_ en_ ec_
     subst ea_
     subst ec_
     clear en_
     refine start_ (n := 33) (S := fun w' => w'.cell? (ad706.add (x7_1).toNat) = some (.slice A706_0 (rd_L3 t700 x7_1).length c706_0) ∧ w'.cell? (ad707.add (x7_1).toNat) = some (.slice A707_0 (rd_L3 t703 x7_1).length c707_0) ∧ w'.cell? (ad706.add (x7_1).toNat) = some (.slice A706_0 (rd_L3 t700 x7_1).length c706_0)) (ds := []) zq14_0 (by kernel_rfl) rfl rfl ⟨hx706_0, hx707_0, hx709_0⟩ (fun hHeld => ?_); refine with_tabW laws_FnClocksOf.tab11 laws_FnClocksOf.bits11 (fun HT_ HW_ => ?_)
     generalize wr.drew = w25 at HO_4 HO_5 HO_6 HB HL706_0 HL707_0 HL709_0 HR706_0 HR707_0 HR709_0 hx706_0 hx707_0 hx709_0 hHeld ⊢
     refine pure_ (i := 0) (N := some 33) (v := ?_) (a' := ?_) zq14_1 rfl rfl (any_of HT_.1 (by kernel_rfl)) (fun _ _ _ h => h) (Or.inl ⟨by rfl, ?_⟩) ?_ ?_
     rotate_left
     ·intro w'
      go_simp
      with_reducible rfl
     rotate_left
     ·exact zV
     refine pure_ (i := 1) (N := some 34) (v := ?_) (a' := ?_) zq14_2 rfl rfl (any_of HT_.1 (by kernel_rfl)) (fun _ _ _ h => h) (Or.inl ⟨by rfl, ?_⟩) ?_ ?_
     rotate_left
     ·intro w'
      go_simp
      with_reducible rfl
     rotate_left
     ·exact zV
     refine pure_ (i := 2) (N := some 35) (v := ?_) (a' := ?_) zq14_3 rfl rfl (any_of HT_.1 (by kernel_rfl)) (fun _ _ _ h => h) (Or.inl ⟨by rfl, ?_⟩) ?_ ?_
     rotate_left
     ·intro w'
      go_simp
      with_reducible rfl
     rotate_left
     ·exact zV
     refine pure_ (i := 4) (N := some 37) (v := ?_) (a' := ?_) zq14_4 rfl rfl (any_of HT_.1 (by kernel_rfl)) (fun _ _ _ h => h) (Or.inl ⟨by rfl, ?_⟩) ?_ ?_
     rotate_left
     ·intro w'
      go_simp
      with_reducible rfl
     rotate_left
     ·exact zV
     refine pure_ (i := 5) (N := some 38) (v := ?_) (a' := ?_) zq14_5 rfl rfl (any_of HT_.1 (by kernel_rfl)) (fun _ _ _ h => h) (Or.inl ⟨by rfl, ?_⟩) ?_ ?_
     rotate_left
     ·intro w'
      go_simp
      with_reducible rfl
     rotate_left
     ·exact zV
     refine pure_ (i := 6) (N := some 39) (v := ?_) (a' := ?_) zq14_6 rfl rfl (any_of HT_.1 (by kernel_rfl)) (fun _ _ _ h => h) (Or.inl ⟨by rfl, ?_⟩) ?_ ?_
     rotate_left
     ·intro w'
      go_simp
      with_reducible rfl
     rotate_left
     ·exact zV
     refine take_ (i := 3) (N := some 36) (v := ?_) (a' := ?_) zq14_7 rfl rfl (take_ofW HT_.1 HW_.1 (by kernel_rfl)) (fun _ _ _ h => h) (Or.inl ⟨by rfl, ?_⟩) hHeld ?_ ?_
     rotate_left
     ·rintro w' ⟨s0, s1, s2⟩
      go_simp
      with_reducible rfl
     rotate_left
     ·exact zV
     refine take_ (i := 7) (N := some 40) (v := ?_) (a' := ?_) zq14_8 rfl rfl (take_ofW HT_.1 HW_.1 (by kernel_rfl)) (fun _ _ _ h => h) (Or.inl ⟨by rfl, ?_⟩) hHeld ?_ ?_
     rotate_left
     ·rintro w' ⟨s0, s1, s2⟩
      go_simp
      with_reducible rfl
     rotate_left
     ·exact zV
     refine one_ (i := 8) (N := some 41) zq14_9 rfl rfl (one_of HT_.1 (by kernel_rfl)) (by decide) (fun K hK => ?_)
     refine goes_ Try.func14 (by kernel_rfl) rfl #[.slice A706_0 (rd_L3 t700 x7_1).length c706_0, .slice A707_0 (rd_L3 t703 x7_1).length c707_0] (by rfl) rfl rfl zT ?_
     with_reducible refine (laws_sameInts.calls k1 _ _ (rd_L3 t700 x7_1) _ _ (rd_L3 t703 x7_1) true _ ?side1 ?side2 ?side3 ?side4 A18.1).mono ?_
     (case side1 => exact zC HR706_0.1)
     (case side2 => exact HC706_0.1)
     (case side3 => exact zC HR707_0.1)
     (case side4 => exact HC707_0.1)
     rintro e w' ⟨rfl, ⟨nd, rfl⟩⟩
     refine ⟨_, rfl, ?_⟩
     refine hK.out _ _ ⟨hHeld.1, hHeld.2.1, hHeld.2.2⟩ (fun hHeld => ?_)
     clear hK K
     refine norm_ (a' := ?_) ?_ ?_
     rotate_left
     ·show Act.put _ (some 41) _ = _
      simp only [Act.put, List.setIfInBounds_toArray, List.set_cons_zero, List.set_cons_succ, i64_w, i32_w]
      rfl
     refine pure_ (i := 9) (N := some 42) (v := ?_) (a' := ?_) zq14_10 rfl rfl (any_of HT_.1 (by kernel_rfl)) (fun _ _ _ h => h) (Or.inl ⟨by rfl, ?_⟩) ?_ ?_
     rotate_left
     ·intro w'
      go_simp
      with_reducible rfl
     rotate_left
     ·exact zV
     refine pure_ (i := 10) (N := some 43) (v := ?_) (a' := ?_) zq14_11 rfl rfl (any_of HT_.1 (by kernel_rfl)) (fun _ _ _ h => h) (Or.inl ⟨by rfl, ?_⟩) ?_ ?_
     rotate_left
     ·intro w'
      go_simp
      with_reducible rfl
     rotate_left
     ·exact zV
     refine pure_ (i := 11) (N := some 44) (v := ?_) (a' := ?_) zq14_12 rfl rfl (any_of HT_.1 (by kernel_rfl)) (fun _ _ _ h => h) (Or.inl ⟨by rfl, ?_⟩) ?_ ?_
     rotate_left
     ·intro w'
      go_simp
      with_reducible rfl
     rotate_left
     ·exact zV
     refine pure_ (i := 12) (N := some 45) (v := ?_) (a' := ?_) zq14_13 rfl rfl (any_of HT_.1 (by kernel_rfl)) (fun _ _ _ h => h) (Or.inl ⟨by rfl, ?_⟩) ?_ ?_
     rotate_left
     ·intro w'
      go_simp
      with_reducible rfl
     rotate_left
     ·exact zV
     refine pure_ (i := 13) (N := some 46) (v := ?_) (a' := ?_) zq14_14 rfl rfl (any_of HT_.1 (by kernel_rfl)) (fun _ _ _ h => h) (Or.inl ⟨by rfl, ?_⟩) ?_ ?_
     rotate_left
     ·intro w'
      go_simp
      with_reducible rfl
     rotate_left
     ·exact zV
     refine pure_ (i := 16) (N := some 49) (v := ?_) (a' := ?_) zq14_15 rfl rfl (any_of HT_.1 (by kernel_rfl)) (fun _ _ _ h => h) (Or.inl ⟨by rfl, ?_⟩) ?_ ?_
     rotate_left
     ·intro w'
      go_simp
      with_reducible rfl
     rotate_left
     ·exact zV
     refine take_ (i := 14) (N := some 47) (v := ?_) (a' := ?_) zq14_16 rfl rfl (take_ofW HT_.1 HW_.1 (by kernel_rfl)) (fun _ _ _ h => h) (Or.inl ⟨by rfl, ?_⟩) hHeld ?_ ?_
     rotate_left
     ·rintro w' ⟨s0, s1, s2⟩
      go_simp
      with_reducible rfl
     rotate_left
     ·exact zV
     refine pure_ (i := 15) (N := some 48) (v := ?_) (a' := ?_) zq14_17 rfl rfl (any_of HT_.1 (by kernel_rfl)) (fun _ _ _ h => h) (Or.inl ⟨by rfl, ?_⟩) ?_ ?_
     rotate_left
     ·intro w'
      go_simp
      with_reducible rfl
     rotate_left
     ·exact zV
     refine pure_ (i := 17) (N := some 50) (v := ?_) (a' := ?_) zq14_18 rfl rfl (any_of HT_.1 (by kernel_rfl)) (fun _ _ _ h => h) (Or.inl ⟨by rfl, ?_⟩) ?_ ?_
     rotate_left
     ·intro w'
      go_simp
      with_reducible rfl
     rotate_left
     ·exact zV
     refine pure_ (i := 18) (N := some 51) (v := ?_) (a' := ?_) zq14_19 rfl rfl (any_of HT_.1 (by kernel_rfl)) (fun _ _ _ h => h) (Or.inl ⟨by rfl, ?_⟩) ?_ ?_
     rotate_left
     ·intro w'
      go_simp
      with_reducible rfl
     rotate_left
     ·exact zV
     refine pure_ (i := 19) (N := some 52) (v := ?_) (a' := ?_) zq14_20 rfl rfl (any_of HT_.1 (by kernel_rfl)) (fun _ _ _ h => h) (Or.inl ⟨by rfl, ?_⟩) ?_ ?_
     rotate_left
     ·intro w'
      go_simp
      with_reducible rfl
     rotate_left
     ·exact zV
     refine pure_ (i := 20) (N := some 53) (v := undef) (a' := ?_) zq14_21 rfl rfl (any_of HT_.1 (by kernel_rfl)) (fun _ _ _ h => h) (Or.inr ⟨by rfl, rfl⟩) ?_ ?_
     rotate_left
     ·exact zV
     refine pure_ (i := 21) (N := some 54) (v := undef) (a' := ?_) zq14_22 rfl rfl (any_of HT_.1 (by kernel_rfl)) (fun _ _ _ h => h) (Or.inr ⟨by rfl, rfl⟩) ?_ ?_
     rotate_left
     ·exact zV
     refine pure_ (i := 22) (N := some 55) (v := undef) (a' := ?_) zq14_23 rfl rfl (any_of HT_.1 (by kernel_rfl)) (fun _ _ _ h => h) (Or.inr ⟨by rfl, rfl⟩) ?_ ?_
     rotate_left
     ·exact zV
     refine pure_ (i := 23) (N := some 56) (v := undef) (a' := ?_) zq14_30 rfl rfl (any_of HT_.1 (by kernel_rfl)) (fun _ _ _ h => h) (Or.inr ⟨by rfl, rfl⟩) ?_ ?_
     rotate_left
     ·exact zV
     refine pure_ (i := 24) (N := some 57) (v := undef) (a' := ?_) zq14_31 rfl rfl (any_of HT_.1 (by kernel_rfl)) (fun _ _ _ h => h) (Or.inr ⟨by rfl, rfl⟩) ?_ ?_
     rotate_left
     ·exact zV
     refine pure_ (i := 25) (N := some 58) (v := undef) (a' := ?_) zq14_32 rfl rfl (any_of HT_.1 (by kernel_rfl)) (fun _ _ _ h => h) (Or.inr ⟨by rfl, rfl⟩) ?_ ?_
     rotate_left
     ·exact zV
     refine pure_ (i := 26) (N := some 59) (v := undef) (a' := ?_) zq14_33 rfl rfl (any_of HT_.1 (by kernel_rfl)) (fun _ _ _ h => h) (Or.inr ⟨by rfl, rfl⟩) ?_ ?_
     rotate_left
     ·exact zV
     refine pure_ (i := 27) (N := some 60) (v := undef) (a' := ?_) zq14_24 rfl rfl (any_of HT_.1 (by kernel_rfl)) (fun _ _ _ h => h) (Or.inr ⟨by rfl, rfl⟩) ?_ ?_
     rotate_left
     ·exact zV
     refine pure_ (i := 28) (N := some 61) (v := undef) (a' := ?_) zq14_25 rfl rfl (any_of HT_.1 (by kernel_rfl)) (fun _ _ _ h => h) (Or.inr ⟨by rfl, rfl⟩) ?_ ?_
     rotate_left
     ·exact zV
     refine pure_ (i := 29) (N := some 62) (v := undef) (a' := ?_) zq14_26 rfl rfl (any_of HT_.1 (by kernel_rfl)) (fun _ _ _ h => h) (Or.inr ⟨by rfl, rfl⟩) ?_ ?_
     rotate_left
     ·exact zV
     refine pure_ (i := 30) (N := some 63) (v := undef) (a' := ?_) zq14_27 rfl rfl (any_of HT_.1 (by kernel_rfl)) (fun _ _ _ h => h) (Or.inr ⟨by rfl, rfl⟩) ?_ ?_
     rotate_left
     ·exact zV
     refine pure_ (i := 31) (N := some 64) (v := undef) (a' := ?_) zq14_28 rfl rfl (any_of HT_.1 (by kernel_rfl)) (fun _ _ _ h => h) (Or.inr ⟨by rfl, rfl⟩) ?_ ?_
     rotate_left
     ·exact zV
     refine pure_ (i := 32) (N := some 65) (v := ?_) (a' := ?_) zq14_29 rfl rfl (any_of HT_.1 (by kernel_rfl)) (fun _ _ _ h => h) (Or.inl ⟨by rfl, ?_⟩) ?_ ?_
     rotate_left
     ·intro w'
      go_simp
      with_reducible rfl
     rotate_left
     ·exact zV
     refine done_ (done_of HT_.1 (by kernel_rfl)) ?_
     try go_wp2
     go_meet
     case rel => exact ⟨_, (true), zJJ, H', ⟨by have := HK1.1; first | omega | exact Nat.le_refl _⟩, ⟨zR HO_4.1⟩, ⟨zS HO_5.1⟩, ⟨zS HO_6.1⟩, ⟨zB12⟩⟩
    rw [if_pos c20] at H
    have c20b0 : (((rd_L3 t700 x7_1).length : Int) == t696) = true := beq_iff_eq.mpr c20
    have c20b1 : (((rd_L3 t700 x7_1).length : Int) != t696) = false := bne_eq_false_iff_eq.mpr c20
    clear c20
    by_cases c21 : x7_1 < (t697.length : Int)
    rotate_left
    ·rw [if_neg c21] at H
     exact absurd H (by simp)
    rw [if_pos c21] at H
    have c21b0 := decide_eq_true c21
    clear c21
    by_cases c22 : 0 ≤ ((rd_T31 t697 x7_1).f0)
    rotate_left
    ·rw [if_neg c22] at H
     exact absurd H (by simp)
    rw [if_pos c22] at H
    have c22b0 := decide_eq_true c22
    clear c22
    by_cases c23 : ((rd_T31 t697 x7_1).f0) < ((rd_L3 t700 x7_1).length : Int)
    rotate_left
    ·rw [if_neg c23] at H
     exact absurd H (by simp)
    rw [if_pos c23] at H
    have c23b0 := decide_eq_true c23
    clear c23
    have H' := zM H
    clear H
    try go_wp2
    replace HO_4 := zM (Kd.R_drew HO_4.1)
    replace HO_5 := zM (Kd.S_drew HO_5.1)
    replace HO_6 := zM (Kd.S_drew HO_6.1)
    replace HB := zM (below_drew1 HB.1)
    have p706 : 0 ≤ (x7_1 : Int) := zA
    have q706 : x7_1 < (t700.length : Int) := zA
    obtain ⟨ad706, A706_0, c706_0, e706, hx706_0, hl706_0, hi706_0⟩ := at_L3 (Kd.S_reads' HO_5.1).2.2 x7_1 p706 q706
    cases e706
    obtain ⟨ce706, hce706, hMe706, hcc706⟩ := Kd.S_get HO_5.1 [] x7_1 p706 (by first | exact q706 | exact zA | (have e_ := (Kd.S_reads' HO_5.1).1; omega))
    obtain ⟨ve706_0, rfl, ge706_0⟩ := hMe706
    have hv706_0 := hcc706 0 _ rfl
    rw [Nat.add_zero, show ((Kd.slice 3 (Kd.int .i64))).sz = 1 from rfl, Nat.mul_one] at hv706_0
    replace hv706_0 := Option.some.inj (hv706_0.symm.trans hx706_0)
    rw [hv706_0] at ge706_0
    have HL706_0 := zM (show Kd.R (Kd.int .i64) 3 _ _ _ _ (rd_L3 t700 x7_1) from ge706_0)
    clear hv706_0 ge706_0 hcc706 hce706
    have HR706_0 := zM hi706_0
    have HC706_0 := zM hl706_0
    clear hi706_0 hl706_0
    replace p706 := eq_true p706
    replace q706 := eq_true q706
    have p707 : 0 ≤ (x7_1 : Int) := zA
    have q707 : x7_1 < (t703.length : Int) := zA
    obtain ⟨ad707, A707_0, c707_0, e707, hx707_0, hl707_0, hi707_0⟩ := at_L3 (Kd.S_reads' HO_6.1).2.2 x7_1 p707 q707
    cases e707
    obtain ⟨ce707, hce707, hMe707, hcc707⟩ := Kd.S_get HO_6.1 [] x7_1 p707 (by first | exact q707 | exact zA | (have e_ := (Kd.S_reads' HO_6.1).1; omega))
    obtain ⟨ve707_0, rfl, ge707_0⟩ := hMe707
    have hv707_0 := hcc707 0 _ rfl
    rw [Nat.add_zero, show ((Kd.slice 3 (Kd.int .i64))).sz = 1 from rfl, Nat.mul_one] at hv707_0
    replace hv707_0 := Option.some.inj (hv707_0.symm.trans hx707_0)
    rw [hv707_0] at ge707_0
    have HL707_0 := zM (show Kd.R (Kd.int .i64) 3 _ _ _ _ (rd_L3 t703 x7_1) from ge707_0)
    clear hv707_0 ge707_0 hcc707 hce707
    have HR707_0 := zM hi707_0
    have HC707_0 := zM hl707_0
    clear hi707_0 hl707_0
    replace p707 := eq_true p707
    replace q707 := eq_true q707
    have p709 : 0 ≤ (x7_1 : Int) := zA
    have q709 : x7_1 < (t700.length : Int) := zA
    obtain ⟨ad709, A709_0, c709_0, e709, hx709_0, hl709_0, hi709_0⟩ := at_L3 (Kd.S_reads' HO_5.1).2.2 x7_1 p709 q709
    obtain rfl : ad706 = ad709 := (by injection e709)
    obtain ⟨ce709, hce709, hMe709, hcc709⟩ := Kd.S_get HO_5.1 [] x7_1 p709 (by first | exact q709 | exact zA | (have e_ := (Kd.S_reads' HO_5.1).1; omega))
    obtain ⟨ve709_0, rfl, ge709_0⟩ := hMe709
    have hv709_0 := hcc709 0 _ rfl
    rw [Nat.add_zero, show ((Kd.slice 3 (Kd.int .i64))).sz = 1 from rfl, Nat.mul_one] at hv709_0
    replace hv709_0 := Option.some.inj (hv709_0.symm.trans hx709_0)
    rw [hv709_0] at ge709_0
    have HL709_0 := zM (show Kd.R (Kd.int .i64) 3 _ _ _ _ (rd_L3 t700 x7_1) from ge709_0)
    clear hv709_0 ge709_0 hcc709 hce709
    have HR709_0 := zM hi709_0
    have HC709_0 := zM hl709_0
    clear hi709_0 hl709_0
    replace p709 := eq_true p709
    replace q709 := eq_true q709
    have ea_ := Option.some.inj (hx706_0.symm.trans hx709_0)
    injection ea_ with ea_ en_ ec_
    subst ea_
    subst ec_
    clear en_
    have p710 : 0 ≤ (x7_1 : Int) := zA
    have q710 : x7_1 < (t700.length : Int) := zA
    obtain ⟨ad710, A710_0, c710_0, e710, hx710_0, hl710_0, hi710_0⟩ := at_L3 (Kd.S_reads' HO_5.1).2.2 x7_1 p710 q710
    obtain rfl : ad706 = ad710 := (by injection e710)
    obtain ⟨ce710, hce710, hMe710, hcc710⟩ := Kd.S_get HO_5.1 [] x7_1 p710 (by first | exact q710 | exact zA | (have e_ := (Kd.S_reads' HO_5.1).1; omega))
    obtain ⟨ve710_0, rfl, ge710_0⟩ := hMe710
    have hv710_0 := hcc710 0 _ rfl
    rw [Nat.add_zero, show ((Kd.slice 3 (Kd.int .i64))).sz = 1 from rfl, Nat.mul_one] at hv710_0
    replace hv710_0 := Option.some.inj (hv710_0.symm.trans hx710_0)
    rw [hv710_0] at ge710_0
    have HL710_0 := zM (show Kd.R (Kd.int .i64) 3 _ _ _ _ (rd_L3 t700 x7_1) from ge710_0)
    clear hv710_0 ge710_0 hcc710 hce710
    have HR710_0 := zM hi710_0
    have HC710_0 := zM hl710_0
    clear hi710_0 hl710_0
    replace p710 := eq_true p710
    replace q710 := eq_true q710
    have ea_ := Option.some.inj (hx706_0.symm.trans hx710_0)
    injection ea_ with ea_ en_ ec_
    subst ea_
    subst ec_
    clear en_
    have p711 : 0 ≤ (x7_1 : Int) := zA
    have q711 : x7_1 < (t697.length : Int) := zA
    obtain ⟨ad711, e711, hx711_0, hx711_1, hx711_2, hx711_3, hx711_4⟩ := at_T31 (Kd.R_reads' HO_4.1).2.2 x7_1 p711 q711
    cases e711
    replace p711 := eq_true p711
    replace q711 := eq_true q711
    have p712 : 0 ≤ (((rd_T31 t697 x7_1).f0) : Int) := zA
    have q712 : ((rd_T31 t697 x7_1).f0) < ((rd_L3 t700 x7_1).length : Int) := zA
    obtain ⟨ad712, e712, hx712_0⟩ := Kd.at_int (zC HR710_0.1) ((rd_T31 t697 x7_1).f0) p712 q712
    cases e712
    replace p712 := eq_true p712
    replace q712 := eq_true q712
    refine start_ (n := 33) (S := fun w' => w'.cell? (ad706.add (x7_1).toNat) = some (.slice (some ad712) (rd_L3 t700 x7_1).length c706_0) ∧ w'.cell? (ad707.add (x7_1).toNat) = some (.slice A707_0 (rd_L3 t703 x7_1).length c707_0) ∧ w'.cell? (ad706.add (x7_1).toNat) = some (.slice (some ad712) (rd_L3 t700 x7_1).length c706_0) ∧ w'.cell? (ad706.add (x7_1).toNat) = some (.slice (some ad712) (rd_L3 t700 x7_1).length c706_0) ∧ w'.cell? (ad711.add ((x7_1).toNat * 5)) = some (.int .i64 ((rd_T31 t697 x7_1).f0)) ∧ w'.cell? ⟨(ad711.add ((x7_1).toNat * 5)).block, (ad711.add ((x7_1).toNat * 5)).off + 1, none⟩ = some (.int .i64 ((rd_T31 t697 x7_1).f1)) ∧ w'.cell? ⟨(ad711.add ((x7_1).toNat * 5)).block, (ad711.add ((x7_1).toNat * 5)).off + 2, none⟩ = some (.int .i64 ((rd_T31 t697 x7_1).f2)) ∧ w'.cell? ⟨(ad711.add ((x7_1).toNat * 5)).block, (ad711.add ((x7_1).toNat * 5)).off + 3, none⟩ = some (.int .i64 ((rd_T31 t697 x7_1).f3)) ∧ w'.cell? ⟨(ad711.add ((x7_1).toNat * 5)).block, (ad711.add ((x7_1).toNat * 5)).off + 4, none⟩ = some (.int .i64 ((rd_T31 t697 x7_1).f4)) ∧ w'.cell? (ad712.add ((rd_T31 t697 x7_1).f0).toNat) = some (.int .i64 (rd (rd_L3 t700 x7_1) ((rd_T31 t697 x7_1).f0)))) (ds := []) zq14_0 (by kernel_rfl) rfl rfl ⟨hx706_0, hx707_0, hx709_0, hx710_0, hx711_0, hx711_1, hx711_2, hx711_3, hx711_4, hx712_0⟩ (fun hHeld => ?_); refine with_tabW laws_FnClocksOf.tab11 laws_FnClocksOf.bits11 (fun HT_ HW_ => ?_)
    generalize wr.drew = w24 at HO_4 HO_5 HO_6 HB HL706_0 HL707_0 HL709_0 HL710_0 HR706_0 HR707_0 HR709_0 HR710_0 hx706_0 hx707_0 hx709_0 hx710_0 hx711_0 hx711_1 hx711_2 hx711_3 hx711_4 hx712_0 hHeld ⊢
    refine pure_ (i := 0) (N := some 33) (v := ?_) (a' := ?_) zq14_1 rfl rfl (any_of HT_.1 (by kernel_rfl)) (fun _ _ _ h => h) (Or.inl ⟨by rfl, ?_⟩) ?_ ?_
    rotate_left
    ·intro w'
     go_simp
     with_reducible rfl
    rotate_left
    ·exact zV
    refine pure_ (i := 1) (N := some 34) (v := ?_) (a' := ?_) zq14_2 rfl rfl (any_of HT_.1 (by kernel_rfl)) (fun _ _ _ h => h) (Or.inl ⟨by rfl, ?_⟩) ?_ ?_
    rotate_left
    ·intro w'
     go_simp
     with_reducible rfl
    rotate_left
    ·exact zV
    refine pure_ (i := 2) (N := some 35) (v := ?_) (a' := ?_) zq14_3 rfl rfl (any_of HT_.1 (by kernel_rfl)) (fun _ _ _ h => h) (Or.inl ⟨by rfl, ?_⟩) ?_ ?_
    rotate_left
    ·intro w'
     go_simp
     with_reducible rfl
    rotate_left
    ·exact zV
    refine pure_ (i := 4) (N := some 37) (v := ?_) (a' := ?_) zq14_4 rfl rfl (any_of HT_.1 (by kernel_rfl)) (fun _ _ _ h => h) (Or.inl ⟨by rfl, ?_⟩) ?_ ?_
    rotate_left
    ·intro w'
     go_simp
     with_reducible rfl
    rotate_left
    ·exact zV
    refine pure_ (i := 5) (N := some 38) (v := ?_) (a' := ?_) zq14_5 rfl rfl (any_of HT_.1 (by kernel_rfl)) (fun _ _ _ h => h) (Or.inl ⟨by rfl, ?_⟩) ?_ ?_
    rotate_left
    ·intro w'
     go_simp
     with_reducible rfl
    rotate_left
    ·exact zV
    refine pure_ (i := 6) (N := some 39) (v := ?_) (a' := ?_) zq14_6 rfl rfl (any_of HT_.1 (by kernel_rfl)) (fun _ _ _ h => h) (Or.inl ⟨by rfl, ?_⟩) ?_ ?_
    rotate_left
    ·intro w'
     go_simp
     with_reducible rfl
    rotate_left
    ·exact zV
    refine take_ (i := 3) (N := some 36) (v := ?_) (a' := ?_) zq14_7 rfl rfl (take_ofW HT_.1 HW_.1 (by kernel_rfl)) (fun _ _ _ h => h) (Or.inl ⟨by rfl, ?_⟩) hHeld ?_ ?_
    rotate_left
    ·rintro w' ⟨s0, s1, s2, s3, s4, s5, s6, s7, s8, s9⟩
     go_simp
     with_reducible rfl
    rotate_left
    ·exact zV
    refine take_ (i := 7) (N := some 40) (v := ?_) (a' := ?_) zq14_8 rfl rfl (take_ofW HT_.1 HW_.1 (by kernel_rfl)) (fun _ _ _ h => h) (Or.inl ⟨by rfl, ?_⟩) hHeld ?_ ?_
    rotate_left
    ·rintro w' ⟨s0, s1, s2, s3, s4, s5, s6, s7, s8, s9⟩
     go_simp
     with_reducible rfl
    rotate_left
    ·exact zV
    refine one_ (i := 8) (N := some 41) zq14_9 rfl rfl (one_of HT_.1 (by kernel_rfl)) (by decide) (fun K hK => ?_)
    refine goes_ Try.func14 (by kernel_rfl) rfl #[.slice (some ad712) (rd_L3 t700 x7_1).length c706_0, .slice A707_0 (rd_L3 t703 x7_1).length c707_0] (by rfl) rfl rfl zT ?_
    with_reducible refine (laws_sameInts.calls k1 _ _ (rd_L3 t700 x7_1) _ _ (rd_L3 t703 x7_1) true _ ?side1 ?side2 ?side3 ?side4 A18.1).mono ?_
    (case side1 => exact zC HR706_0.1)
    (case side2 => exact HC706_0.1)
    (case side3 => exact zC HR707_0.1)
    (case side4 => exact HC707_0.1)
    rintro e w' ⟨rfl, ⟨nd, rfl⟩⟩
    refine ⟨_, rfl, ?_⟩
    refine hK.out _ _ ⟨hHeld.1, hHeld.2.1, hHeld.2.2.1, hHeld.2.2.2.1, hHeld.2.2.2.2.1, hHeld.2.2.2.2.2.1, hHeld.2.2.2.2.2.2.1, hHeld.2.2.2.2.2.2.2.1, hHeld.2.2.2.2.2.2.2.2.1, hHeld.2.2.2.2.2.2.2.2.2⟩ (fun hHeld => ?_)
    clear hK K
    refine norm_ (a' := ?_) ?_ ?_
    rotate_left
    ·show Act.put _ (some 41) _ = _
     simp only [Act.put, List.setIfInBounds_toArray, List.set_cons_zero, List.set_cons_succ, i64_w, i32_w]
     rfl
    refine pure_ (i := 9) (N := some 42) (v := ?_) (a' := ?_) zq14_10 rfl rfl (any_of HT_.1 (by kernel_rfl)) (fun _ _ _ h => h) (Or.inl ⟨by rfl, ?_⟩) ?_ ?_
    rotate_left
    ·intro w'
     go_simp
     with_reducible rfl
    rotate_left
    ·exact zV
    refine pure_ (i := 10) (N := some 43) (v := ?_) (a' := ?_) zq14_11 rfl rfl (any_of HT_.1 (by kernel_rfl)) (fun _ _ _ h => h) (Or.inl ⟨by rfl, ?_⟩) ?_ ?_
    rotate_left
    ·intro w'
     go_simp
     with_reducible rfl
    rotate_left
    ·exact zV
    refine pure_ (i := 11) (N := some 44) (v := ?_) (a' := ?_) zq14_12 rfl rfl (any_of HT_.1 (by kernel_rfl)) (fun _ _ _ h => h) (Or.inl ⟨by rfl, ?_⟩) ?_ ?_
    rotate_left
    ·intro w'
     go_simp
     with_reducible rfl
    rotate_left
    ·exact zV
    refine pure_ (i := 12) (N := some 45) (v := ?_) (a' := ?_) zq14_13 rfl rfl (any_of HT_.1 (by kernel_rfl)) (fun _ _ _ h => h) (Or.inl ⟨by rfl, ?_⟩) ?_ ?_
    rotate_left
    ·intro w'
     go_simp
     with_reducible rfl
    rotate_left
    ·exact zV
    refine pure_ (i := 13) (N := some 46) (v := ?_) (a' := ?_) zq14_14 rfl rfl (any_of HT_.1 (by kernel_rfl)) (fun _ _ _ h => h) (Or.inl ⟨by rfl, ?_⟩) ?_ ?_
    rotate_left
    ·intro w'
     go_simp
     with_reducible rfl
    rotate_left
    ·exact zV
    refine pure_ (i := 16) (N := some 49) (v := ?_) (a' := ?_) zq14_15 rfl rfl (any_of HT_.1 (by kernel_rfl)) (fun _ _ _ h => h) (Or.inl ⟨by rfl, ?_⟩) ?_ ?_
    rotate_left
    ·intro w'
     go_simp
     with_reducible rfl
    rotate_left
    ·exact zV
    refine one_ (i := 14) (N := some 47) zq14_16 rfl rfl (one_of HT_.1 (by kernel_rfl)) (by decide) (fun K hK => ?_)
    rw [if_pos (by rfl)]
    go_simp
    refine hK.out _ _ ⟨hHeld.1, hHeld.2.1, hHeld.2.2.1, hHeld.2.2.2.1, hHeld.2.2.2.2.1, hHeld.2.2.2.2.2.1, hHeld.2.2.2.2.2.2.1, hHeld.2.2.2.2.2.2.2.1, hHeld.2.2.2.2.2.2.2.2.1, hHeld.2.2.2.2.2.2.2.2.2⟩ (fun hHeld => ?_)
    clear hK K
    refine pure_ (i := 15) (N := some 48) (v := ?_) (a' := ?_) zq14_17 rfl rfl (any_of HT_.1 (by kernel_rfl)) (fun _ _ _ h => h) (Or.inl ⟨by rfl, ?_⟩) ?_ ?_
    rotate_left
    ·intro w'
     go_simp
     with_reducible rfl
    rotate_left
    ·exact zV
    refine pure_ (i := 17) (N := some 50) (v := ?_) (a' := ?_) zq14_18 rfl rfl (any_of HT_.1 (by kernel_rfl)) (fun _ _ _ h => h) (Or.inl ⟨by rfl, ?_⟩) ?_ ?_
    rotate_left
    ·intro w'
     go_simp
     with_reducible rfl
    rotate_left
    ·exact zV
    refine pure_ (i := 18) (N := some 51) (v := ?_) (a' := ?_) zq14_19 rfl rfl (any_of HT_.1 (by kernel_rfl)) (fun _ _ _ h => h) (Or.inl ⟨by rfl, ?_⟩) ?_ ?_
    rotate_left
    ·intro w'
     go_simp
     with_reducible rfl
    rotate_left
    ·exact zV
    refine pure_ (i := 19) (N := some 52) (v := ?_) (a' := ?_) zq14_20 rfl rfl (any_of HT_.1 (by kernel_rfl)) (fun _ _ _ h => h) (Or.inl ⟨by rfl, ?_⟩) ?_ ?_
    rotate_left
    ·intro w'
     go_simp
     with_reducible rfl
    rotate_left
    ·exact zV
    refine pure_ (i := 20) (N := some 53) (v := ?_) (a' := ?_) zq14_21 rfl rfl (any_of HT_.1 (by kernel_rfl)) (fun _ _ _ h => h) (Or.inl ⟨by rfl, ?_⟩) ?_ ?_
    rotate_left
    ·intro w'
     go_simp
     with_reducible rfl
    rotate_left
    ·exact zV
    refine pure_ (i := 21) (N := some 54) (v := ?_) (a' := ?_) zq14_22 rfl rfl (any_of HT_.1 (by kernel_rfl)) (fun _ _ _ h => h) (Or.inl ⟨by rfl, ?_⟩) ?_ ?_
    rotate_left
    ·intro w'
     go_simp
     with_reducible rfl
    rotate_left
    ·exact zV
    refine pure_ (i := 22) (N := some 55) (v := ?_) (a' := ?_) zq14_23 rfl rfl (any_of HT_.1 (by kernel_rfl)) (fun _ _ _ h => h) (Or.inl ⟨by rfl, ?_⟩) ?_ ?_
    rotate_left
    ·intro w'
     go_simp
     with_reducible rfl
    rotate_left
    ·exact zV
    refine pure_ (i := 24) (N := some 57) (v := ?_) (a' := ?_) #[true, true, true, true, true, true, true, true, true, true, true, true, true, true, true, true, true, true, true, true, true, true, true, false, true, false, false, false, false, false, false, false, false] rfl rfl (any_of HT_.1 (by kernel_rfl)) (fun _ _ _ h => h) (Or.inl ⟨by rfl, ?_⟩) ?_ ?_
    rotate_left
    ·intro w'
     go_simp
     with_reducible rfl
    rotate_left
    ·exact zV
    refine pure_ (i := 25) (N := some 58) (v := ?_) (a' := ?_) #[true, true, true, true, true, true, true, true, true, true, true, true, true, true, true, true, true, true, true, true, true, true, true, false, true, true, false, false, false, false, false, false, false] rfl rfl (any_of HT_.1 (by kernel_rfl)) (fun _ _ _ h => h) (Or.inl ⟨by rfl, ?_⟩) ?_ ?_
    rotate_left
    ·intro w'
     go_simp
     with_reducible rfl
    rotate_left
    ·exact zV
    refine pure_ (i := 26) (N := some 59) (v := ?_) (a' := ?_) #[true, true, true, true, true, true, true, true, true, true, true, true, true, true, true, true, true, true, true, true, true, true, true, false, true, true, true, false, false, false, false, false, false] rfl rfl (any_of HT_.1 (by kernel_rfl)) (fun _ _ _ h => h) (Or.inl ⟨by rfl, ?_⟩) ?_ ?_
    rotate_left
    ·intro w'
     go_simp
     with_reducible rfl
    rotate_left
    ·exact zV
    refine pure_ (i := 27) (N := some 60) (v := ?_) (a' := ?_) #[true, true, true, true, true, true, true, true, true, true, true, true, true, true, true, true, true, true, true, true, true, true, true, false, true, true, true, true, false, false, false, false, false] rfl rfl (any_of HT_.1 (by kernel_rfl)) (fun _ _ _ h => h) (Or.inl ⟨by rfl, ?_⟩) ?_ ?_
    rotate_left
    ·intro w'
     go_simp
     with_reducible rfl
    rotate_left
    ·exact zV
    refine take_ (i := 23) (N := some 56) (v := ?_) (a' := ?_) zq14_24 rfl rfl (take_ofW HT_.1 HW_.1 (by kernel_rfl)) (fun _ _ _ h => h) (Or.inl ⟨by rfl, ?_⟩) hHeld ?_ ?_
    rotate_left
    ·rintro w' ⟨s0, s1, s2, s3, s4, s5, s6, s7, s8, s9⟩
     go_simp
     with_reducible rfl
    rotate_left
    ·exact zV
    refine take_ (i := 28) (N := some 61) (v := ?_) (a' := ?_) zq14_25 rfl rfl (take_ofW HT_.1 HW_.1 (by kernel_rfl)) (fun _ _ _ h => h) (Or.inl ⟨by rfl, ?_⟩) hHeld ?_ ?_
    rotate_left
    ·rintro w' ⟨s0, s1, s2, s3, s4, s5, s6, s7, s8, s9⟩
     go_simp
     with_reducible rfl
    rotate_left
    ·exact zV
    refine pure_ (i := 29) (N := some 62) (v := ?_) (a' := ?_) zq14_26 rfl rfl (any_of HT_.1 (by kernel_rfl)) (fun _ _ _ h => h) (Or.inl ⟨by rfl, ?_⟩) ?_ ?_
    rotate_left
    ·intro w'
     go_simp
     with_reducible rfl
    rotate_left
    ·exact zV
    refine take_ (i := 30) (N := some 63) (v := ?_) (a' := ?_) zq14_27 rfl rfl (take_ofW HT_.1 HW_.1 (by kernel_rfl)) (fun _ _ _ h => h) (Or.inl ⟨by rfl, ?_⟩) hHeld ?_ ?_
    rotate_left
    ·rintro w' ⟨s0, s1, s2, s3, s4, s5, s6, s7, s8, s9⟩
     go_simp
     with_reducible rfl
    rotate_left
    ·exact zV
    refine pure_ (i := 31) (N := some 64) (v := ?_) (a' := ?_) zq14_28 rfl rfl (any_of HT_.1 (by kernel_rfl)) (fun _ _ _ h => h) (Or.inl ⟨by rfl, ?_⟩) ?_ ?_
    rotate_left
    ·intro w'
     go_simp
     with_reducible rfl
    rotate_left
    ·exact zV
    refine pure_ (i := 32) (N := some 65) (v := ?_) (a' := ?_) zq14_29 rfl rfl (any_of HT_.1 (by kernel_rfl)) (fun _ _ _ h => h) (Or.inl ⟨by rfl, ?_⟩) ?_ ?_
    rotate_left
    ·intro w'
     go_simp
     with_reducible rfl
    rotate_left
    ·exact zV
    refine done_ (done_of HT_.1 (by kernel_rfl)) ?_
    try go_wp2
    go_meet
    case rel => exact ⟨_, (decide ((rd (rd_L3 t700 x7_1) ((rd_T31 t697 x7_1).f0)) < 1)), zJJ, H', ⟨by have := HK1.1; first | omega | exact Nat.le_refl _⟩, ⟨zR HO_4.1⟩, ⟨zS HO_5.1⟩, ⟨zS HO_6.1⟩, ⟨zB12⟩⟩
   case rest =>
    clear HC15
    try clear c1
    try clear c2
    try clear p2
    try clear c7
    try clear p7
    try clear q7
    try clear hx7
    try clear c14
    try clear c16
    try clear c17
    try clear c19
    try clear c20
    try clear c20b0
    try clear c20b1
    try clear c21
    try clear c22
    try clear c23
    try clear hx706_0
    try clear hx707_0
    try clear hx709_0
    try clear p706
    try clear p707
    try clear p709
    try clear q706
    try clear q707
    try clear q709
    obtain ⟨kq, x65_14, rfl, HA, HJ14, HO_4, HO_5, HO_6, HB⟩ := hcut
    cases kq with
    | zero => exact absurd HA.1 (by simp [laws_FnClocksOf.j1])
    | succ kj14 =>
     have H := HA.1
     clear HA
     simp only [laws_FnClocksOf.j1] at H
     by_cases c27 : x65_14 = true
     ·subst c27
      rw [if_pos rfl] at H
      obtain rfl := Option.some.inj H
      go_wp2
      go_ret
      exact ⟨zE, zB12⟩
     replace c27 := Bool.eq_false_iff.mpr c27
     subst c27
     rw [if_neg zF] at H
     have H' := zM H
     clear H
     go_wp2
     go_loopg [8] kj14 (fun kq v8 w' => ∃ (x8_3 : Int), v8 = .int .i64 x8_3 ∧ Aside0 (laws_FnClocksOf.l1 kq t696 t697 t700 t703 x7_1 x8_3 = some r) ∧ Aside0 (kq ≤ kj14) ∧ Aside0 (Kd.R k31 31 w' w.heap.size (fun _ => True) (.slice Ao9 t697.length co9) t697) ∧ Aside0 (Kd.S (Kd.slice 3 (Kd.int .i64)) 29 w' w.heap.size (fun k_ => some k_ ≠ ((.slice Ao13 t703.length co13) : Value).ownBlock) (.slice Ao12 t700.length co12) t700) ∧ Aside0 (Kd.S (Kd.slice 3 (Kd.int .i64)) 29 w' w.heap.size (fun k_ => some k_ ≠ ((.slice Ao12 t700.length co12) : Value).ownBlock) (.slice Ao13 t703.length co13) t703) ∧ Aside0 (Below w.heap.size w w'))
     case atStart => exact ⟨(0), zJJ, H', ⟨Nat.le_refl _⟩, ⟨zR HO_4.1⟩, ⟨zS HO_5.1⟩, ⟨zS HO_6.1⟩, ⟨zB12⟩⟩
     case round =>
      clear H'
      try clear c1
      try clear c2
      try clear p2
      try clear c7
      try clear p7
      try clear q7
      try clear hx7
      try clear c14
      try clear c16
      try clear c17
      try clear c19
      try clear c20
      try clear c20b0
      try clear c20b1
      try clear c21
      try clear c22
      try clear c23
      try clear c27
      try clear hx706_0
      try clear hx707_0
      try clear hx709_0
      try clear p2
      try clear p7
      try clear p706
      try clear p707
      try clear p709
      try clear q7
      try clear q706
      try clear q707
      try clear q709
      obtain ⟨x8_3, rfl, HA, HK3, HO_4, HO_5, HO_6, HB⟩ := hrel
      cases gk with
      | zero => exact absurd HA.1 (by simp [laws_FnClocksOf.l1])
      | succ k3 =>
       have H := HA.1
       clear HA
       simp only [laws_FnClocksOf.l1] at H
       by_cases c28 : x8_3 < x7_1
       rotate_left
       ·rw [if_neg c28] at H
        have c28b0 := decide_eq_false c28
        clear c28
        have H' := zM H
        clear H
        go_wp2
        go_roundg k3
        case measure => have := HK1.1; have := HJ14.1; have := HK3.1; omega
        case rel => exact ⟨(wrap64 (x7_1 + 1)), zJJ, H', ⟨by have := HK1.1; have := HJ14.1; have := HK3.1; omega⟩, ⟨zR HO_4.1⟩, ⟨zS HO_5.1⟩, ⟨zS HO_6.1⟩, ⟨zB12⟩⟩
       rw [if_pos c28] at H
       have c28b0 := decide_eq_true c28
       clear c28
       by_cases c29 : 0 ≤ x8_3
       rotate_left
       ·rw [if_neg c29] at H
        exact absurd H (by simp)
       rw [if_pos c29] at H
       have c29b0 := decide_eq_true c29
       clear c29
       by_cases c30 : x8_3 < (t700.length : Int)
       rotate_left
       ·rw [if_neg c30] at H
        exact absurd H (by simp)
       rw [if_pos c30] at H
       have c30b0 := decide_eq_true c30
       clear c30
       by_cases c31 : 0 ≤ x7_1
       rotate_left
       ·rw [if_neg c31] at H
        exact absurd H (by simp)
       rw [if_pos c31] at H
       have c31b0 := decide_eq_true c31
       clear c31
       by_cases c32 : x7_1 < (t700.length : Int)
       rotate_left
       ·rw [if_neg c32] at H
        exact absurd H (by simp)
       rw [if_pos c32] at H
       have c32b0 := decide_eq_true c32
       clear c32
       replace H := zO H
       obtain ⟨t715, A33, H⟩ := H
       by_cases c34 : t715 = true
       ·subst c34
        rw [if_pos rfl] at H
        obtain rfl := Option.some.inj H
        try go_wp2
        replace HO_4 := zM (Kd.R_drew HO_4.1)
        replace HO_5 := zM (Kd.S_drew HO_5.1)
        replace HO_6 := zM (Kd.S_drew HO_6.1)
        replace HB := zM (below_drew1 HB.1)
        have p713 : 0 ≤ (x8_3 : Int) := zA
        have q713 : x8_3 < (t700.length : Int) := zA
        obtain ⟨ad713, A713_0, c713_0, e713, hx713_0, hl713_0, hi713_0⟩ := at_L3 (Kd.S_reads' HO_5.1).2.2 x8_3 p713 q713
        cases e713
        obtain ⟨ce713, hce713, hMe713, hcc713⟩ := Kd.S_get HO_5.1 [] x8_3 p713 (by first | exact q713 | exact zA | (have e_ := (Kd.S_reads' HO_5.1).1; omega))
        obtain ⟨ve713_0, rfl, ge713_0⟩ := hMe713
        have hv713_0 := hcc713 0 _ rfl
        rw [Nat.add_zero, show ((Kd.slice 3 (Kd.int .i64))).sz = 1 from rfl, Nat.mul_one] at hv713_0
        replace hv713_0 := Option.some.inj (hv713_0.symm.trans hx713_0)
        rw [hv713_0] at ge713_0
        have HL713_0 := zM (show Kd.R (Kd.int .i64) 3 _ _ _ _ (rd_L3 t700 x8_3) from ge713_0)
        clear hv713_0 ge713_0 hcc713 hce713
        have HR713_0 := zM hi713_0
        have HC713_0 := zM hl713_0
        clear hi713_0 hl713_0
        replace p713 := eq_true p713
        replace q713 := eq_true q713
        have p714 : 0 ≤ (x7_1 : Int) := zA
        have q714 : x7_1 < (t700.length : Int) := zA
        obtain ⟨ad714, A714_0, c714_0, e714, hx714_0, hl714_0, hi714_0⟩ := at_L3 (Kd.S_reads' HO_5.1).2.2 x7_1 p714 q714
        obtain rfl : ad713 = ad714 := (by injection e714)
        obtain ⟨ce714, hce714, hMe714, hcc714⟩ := Kd.S_get HO_5.1 [] x7_1 p714 (by first | exact q714 | exact zA | (have e_ := (Kd.S_reads' HO_5.1).1; omega))
        obtain ⟨ve714_0, rfl, ge714_0⟩ := hMe714
        have hv714_0 := hcc714 0 _ rfl
        rw [Nat.add_zero, show ((Kd.slice 3 (Kd.int .i64))).sz = 1 from rfl, Nat.mul_one] at hv714_0
        replace hv714_0 := Option.some.inj (hv714_0.symm.trans hx714_0)
        rw [hv714_0] at ge714_0
        have HL714_0 := zM (show Kd.R (Kd.int .i64) 3 _ _ _ _ (rd_L3 t700 x7_1) from ge714_0)
        clear hv714_0 ge714_0 hcc714 hce714
        have HR714_0 := zM hi714_0
        have HC714_0 := zM hl714_0
        clear hi714_0 hl714_0
        replace p714 := eq_true p714
        replace q714 := eq_true q714
        refine start_ (n := 9) (S := fun w' => w'.cell? (ad713.add (x8_3).toNat) = some (.slice A713_0 (rd_L3 t700 x8_3).length c713_0) ∧ w'.cell? (ad713.add (x7_1).toNat) = some (.slice A714_0 (rd_L3 t700 x7_1).length c714_0)) (ds := []) zq14_34 (by kernel_rfl) rfl rfl ⟨hx713_0, hx714_0⟩ (fun hHeld => ?_); refine with_tabW laws_FnClocksOf.tab16 laws_FnClocksOf.bits16 (fun HT_ HW_ => ?_)
        generalize wr.drew = w35 at HO_4 HO_5 HO_6 HB HL713_0 HL714_0 HR713_0 HR714_0 hx713_0 hx714_0 hHeld ⊢
        refine pure_ (i := 0) (N := some 71) (v := ?_) (a' := ?_) zq14_35 rfl rfl (any_of HT_.1 (by kernel_rfl)) (fun _ _ _ h => h) (Or.inl ⟨by rfl, ?_⟩) ?_ ?_
        rotate_left
        ·intro w'
         go_simp
         with_reducible rfl
        rotate_left
        ·exact zV
        refine pure_ (i := 1) (N := some 72) (v := ?_) (a' := ?_) zq14_36 rfl rfl (any_of HT_.1 (by kernel_rfl)) (fun _ _ _ h => h) (Or.inl ⟨by rfl, ?_⟩) ?_ ?_
        rotate_left
        ·intro w'
         go_simp
         with_reducible rfl
        rotate_left
        ·exact zV
        refine pure_ (i := 2) (N := some 73) (v := ?_) (a' := ?_) zq14_37 rfl rfl (any_of HT_.1 (by kernel_rfl)) (fun _ _ _ h => h) (Or.inl ⟨by rfl, ?_⟩) ?_ ?_
        rotate_left
        ·intro w'
         go_simp
         with_reducible rfl
        rotate_left
        ·exact zV
        refine pure_ (i := 4) (N := some 75) (v := ?_) (a' := ?_) zq14_38 rfl rfl (any_of HT_.1 (by kernel_rfl)) (fun _ _ _ h => h) (Or.inl ⟨by rfl, ?_⟩) ?_ ?_
        rotate_left
        ·intro w'
         go_simp
         with_reducible rfl
        rotate_left
        ·exact zV
        refine pure_ (i := 5) (N := some 76) (v := ?_) (a' := ?_) zq14_39 rfl rfl (any_of HT_.1 (by kernel_rfl)) (fun _ _ _ h => h) (Or.inl ⟨by rfl, ?_⟩) ?_ ?_
        rotate_left
        ·intro w'
         go_simp
         with_reducible rfl
        rotate_left
        ·exact zV
        refine pure_ (i := 6) (N := some 77) (v := ?_) (a' := ?_) zq14_40 rfl rfl (any_of HT_.1 (by kernel_rfl)) (fun _ _ _ h => h) (Or.inl ⟨by rfl, ?_⟩) ?_ ?_
        rotate_left
        ·intro w'
         go_simp
         with_reducible rfl
        rotate_left
        ·exact zV
        refine take_ (i := 3) (N := some 74) (v := ?_) (a' := ?_) zq14_41 rfl rfl (take_ofW HT_.1 HW_.1 (by kernel_rfl)) (fun _ _ _ h => h) (Or.inl ⟨by rfl, ?_⟩) hHeld ?_ ?_
        rotate_left
        ·rintro w' ⟨s0, s1⟩
         go_simp
         with_reducible rfl
        rotate_left
        ·exact zV
        refine take_ (i := 7) (N := some 78) (v := ?_) (a' := ?_) zq14_42 rfl rfl (take_ofW HT_.1 HW_.1 (by kernel_rfl)) (fun _ _ _ h => h) (Or.inl ⟨by rfl, ?_⟩) hHeld ?_ ?_
        rotate_left
        ·rintro w' ⟨s0, s1⟩
         go_simp
         with_reducible rfl
        rotate_left
        ·exact zV
        refine one_ (i := 8) (N := some 79) zq14_43 rfl rfl (one_of HT_.1 (by kernel_rfl)) (by decide) (fun K hK => ?_)
        refine goes_ Try.func14 (by kernel_rfl) rfl #[.slice A713_0 (rd_L3 t700 x8_3).length c713_0, .slice A714_0 (rd_L3 t700 x7_1).length c714_0] (by rfl) rfl rfl zT ?_
        with_reducible refine (laws_sameInts.calls k3 _ _ (rd_L3 t700 x8_3) _ _ (rd_L3 t700 x7_1) true _ ?side1 ?side2 ?side3 ?side4 A33.1).mono ?_
        (case side1 => exact zC HR713_0.1)
        (case side2 => exact HC713_0.1)
        (case side3 => exact zC HR714_0.1)
        (case side4 => exact HC714_0.1)
        rintro e w' ⟨rfl, ⟨nd, rfl⟩⟩
        refine ⟨_, rfl, ?_⟩
        refine hK.out _ _ ⟨hHeld.1, hHeld.2⟩ (fun hHeld => ?_)
        clear hK K
        refine norm_ (a' := ?_) ?_ ?_
        rotate_left
        ·show Act.put _ (some 79) _ = _
         simp only [Act.put, List.setIfInBounds_toArray, List.set_cons_zero, List.set_cons_succ, i64_w, i32_w]
         rfl
        refine done_ (done_of HT_.1 (by kernel_rfl)) ?_
        try go_wp2
        go_ret
        exact ⟨zE, zB12⟩
       replace c34 := Bool.eq_false_iff.mpr c34
       subst c34
       rw [if_neg zF] at H
       have H' := zM H
       clear H
       try go_wp2
       replace HO_4 := zM (Kd.R_drew HO_4.1)
       replace HO_5 := zM (Kd.S_drew HO_5.1)
       replace HO_6 := zM (Kd.S_drew HO_6.1)
       replace HB := zM (below_drew1 HB.1)
       have p713 : 0 ≤ (x8_3 : Int) := zA
       have q713 : x8_3 < (t700.length : Int) := zA
       obtain ⟨ad713, A713_0, c713_0, e713, hx713_0, hl713_0, hi713_0⟩ := at_L3 (Kd.S_reads' HO_5.1).2.2 x8_3 p713 q713
       cases e713
       obtain ⟨ce713, hce713, hMe713, hcc713⟩ := Kd.S_get HO_5.1 [] x8_3 p713 (by first | exact q713 | exact zA | (have e_ := (Kd.S_reads' HO_5.1).1; omega))
       obtain ⟨ve713_0, rfl, ge713_0⟩ := hMe713
       have hv713_0 := hcc713 0 _ rfl
       rw [Nat.add_zero, show ((Kd.slice 3 (Kd.int .i64))).sz = 1 from rfl, Nat.mul_one] at hv713_0
       replace hv713_0 := Option.some.inj (hv713_0.symm.trans hx713_0)
       rw [hv713_0] at ge713_0
       have HL713_0 := zM (show Kd.R (Kd.int .i64) 3 _ _ _ _ (rd_L3 t700 x8_3) from ge713_0)
       clear hv713_0 ge713_0 hcc713 hce713
       have HR713_0 := zM hi713_0
       have HC713_0 := zM hl713_0
       clear hi713_0 hl713_0
       replace p713 := eq_true p713
       replace q713 := eq_true q713
       have p714 : 0 ≤ (x7_1 : Int) := zA
       have q714 : x7_1 < (t700.length : Int) := zA
       obtain ⟨ad714, A714_0, c714_0, e714, hx714_0, hl714_0, hi714_0⟩ := at_L3 (Kd.S_reads' HO_5.1).2.2 x7_1 p714 q714
       obtain rfl : ad713 = ad714 := (by injection e714)
       obtain ⟨ce714, hce714, hMe714, hcc714⟩ := Kd.S_get HO_5.1 [] x7_1 p714 (by first | exact q714 | exact zA | (have e_ := (Kd.S_reads' HO_5.1).1; omega))
       obtain ⟨ve714_0, rfl, ge714_0⟩ := hMe714
       have hv714_0 := hcc714 0 _ rfl
       rw [Nat.add_zero, show ((Kd.slice 3 (Kd.int .i64))).sz = 1 from rfl, Nat.mul_one] at hv714_0
       replace hv714_0 := Option.some.inj (hv714_0.symm.trans hx714_0)
       rw [hv714_0] at ge714_0
       have HL714_0 := zM (show Kd.R (Kd.int .i64) 3 _ _ _ _ (rd_L3 t700 x7_1) from ge714_0)
       clear hv714_0 ge714_0 hcc714 hce714
       have HR714_0 := zM hi714_0
       have HC714_0 := zM hl714_0
       clear hi714_0 hl714_0
       replace p714 := eq_true p714
       replace q714 := eq_true q714
       refine start_ (n := 9) (S := fun w' => w'.cell? (ad713.add (x8_3).toNat) = some (.slice A713_0 (rd_L3 t700 x8_3).length c713_0) ∧ w'.cell? (ad713.add (x7_1).toNat) = some (.slice A714_0 (rd_L3 t700 x7_1).length c714_0)) (ds := []) zq14_34 (by kernel_rfl) rfl rfl ⟨hx713_0, hx714_0⟩ (fun hHeld => ?_); refine with_tabW laws_FnClocksOf.tab16 laws_FnClocksOf.bits16 (fun HT_ HW_ => ?_)
       generalize wr.drew = w36 at HO_4 HO_5 HO_6 HB HL713_0 HL714_0 HR713_0 HR714_0 hx713_0 hx714_0 hHeld ⊢
       refine pure_ (i := 0) (N := some 71) (v := ?_) (a' := ?_) zq14_35 rfl rfl (any_of HT_.1 (by kernel_rfl)) (fun _ _ _ h => h) (Or.inl ⟨by rfl, ?_⟩) ?_ ?_
       rotate_left
       ·intro w'
        go_simp
        with_reducible rfl
       rotate_left
       ·exact zV
       refine pure_ (i := 1) (N := some 72) (v := ?_) (a' := ?_) zq14_36 rfl rfl (any_of HT_.1 (by kernel_rfl)) (fun _ _ _ h => h) (Or.inl ⟨by rfl, ?_⟩) ?_ ?_
       rotate_left
       ·intro w'
        go_simp
        with_reducible rfl
       rotate_left
       ·exact zV
       refine pure_ (i := 2) (N := some 73) (v := ?_) (a' := ?_) zq14_37 rfl rfl (any_of HT_.1 (by kernel_rfl)) (fun _ _ _ h => h) (Or.inl ⟨by rfl, ?_⟩) ?_ ?_
       rotate_left
       ·intro w'
        go_simp
        with_reducible rfl
       rotate_left
       ·exact zV
       refine pure_ (i := 4) (N := some 75) (v := ?_) (a' := ?_) zq14_38 rfl rfl (any_of HT_.1 (by kernel_rfl)) (fun _ _ _ h => h) (Or.inl ⟨by rfl, ?_⟩) ?_ ?_
       rotate_left
       ·intro w'
        go_simp
        with_reducible rfl
       rotate_left
       ·exact zV
       refine pure_ (i := 5) (N := some 76) (v := ?_) (a' := ?_) zq14_39 rfl rfl (any_of HT_.1 (by kernel_rfl)) (fun _ _ _ h => h) (Or.inl ⟨by rfl, ?_⟩) ?_ ?_
       rotate_left
       ·intro w'
        go_simp
        with_reducible rfl
       rotate_left
       ·exact zV
       refine pure_ (i := 6) (N := some 77) (v := ?_) (a' := ?_) zq14_40 rfl rfl (any_of HT_.1 (by kernel_rfl)) (fun _ _ _ h => h) (Or.inl ⟨by rfl, ?_⟩) ?_ ?_
       rotate_left
       ·intro w'
        go_simp
        with_reducible rfl
       rotate_left
       ·exact zV
       refine take_ (i := 3) (N := some 74) (v := ?_) (a' := ?_) zq14_41 rfl rfl (take_ofW HT_.1 HW_.1 (by kernel_rfl)) (fun _ _ _ h => h) (Or.inl ⟨by rfl, ?_⟩) hHeld ?_ ?_
       rotate_left
       ·rintro w' ⟨s0, s1⟩
        go_simp
        with_reducible rfl
       rotate_left
       ·exact zV
       refine take_ (i := 7) (N := some 78) (v := ?_) (a' := ?_) zq14_42 rfl rfl (take_ofW HT_.1 HW_.1 (by kernel_rfl)) (fun _ _ _ h => h) (Or.inl ⟨by rfl, ?_⟩) hHeld ?_ ?_
       rotate_left
       ·rintro w' ⟨s0, s1⟩
        go_simp
        with_reducible rfl
       rotate_left
       ·exact zV
       refine one_ (i := 8) (N := some 79) zq14_43 rfl rfl (one_of HT_.1 (by kernel_rfl)) (by decide) (fun K hK => ?_)
       refine goes_ Try.func14 (by kernel_rfl) rfl #[.slice A713_0 (rd_L3 t700 x8_3).length c713_0, .slice A714_0 (rd_L3 t700 x7_1).length c714_0] (by rfl) rfl rfl zT ?_
       with_reducible refine (laws_sameInts.calls k3 _ _ (rd_L3 t700 x8_3) _ _ (rd_L3 t700 x7_1) false _ ?side1 ?side2 ?side3 ?side4 A33.1).mono ?_
       (case side1 => exact zC HR713_0.1)
       (case side2 => exact HC713_0.1)
       (case side3 => exact zC HR714_0.1)
       (case side4 => exact HC714_0.1)
       rintro e w' ⟨rfl, ⟨nd, rfl⟩⟩
       refine ⟨_, rfl, ?_⟩
       refine hK.out _ _ ⟨hHeld.1, hHeld.2⟩ (fun hHeld => ?_)
       clear hK K
       refine norm_ (a' := ?_) ?_ ?_
       rotate_left
       ·show Act.put _ (some 79) _ = _
        simp only [Act.put, List.setIfInBounds_toArray, List.set_cons_zero, List.set_cons_succ, i64_w, i32_w]
        rfl
       refine done_ (done_of HT_.1 (by kernel_rfl)) ?_
       try go_wp2
       go_roundg k3
       case measure => have := HK1.1; have := HJ14.1; have := HK3.1; omega
       case rel => exact ⟨(wrap64 (x8_3 + 1)), zJJ, H', ⟨by have := HK1.1; have := HJ14.1; have := HK3.1; omega⟩, ⟨zR HO_4.1⟩, ⟨zS HO_5.1⟩, ⟨zS HO_6.1⟩, ⟨zB12⟩⟩

/-- THE ONE PURE STATEMENT of laws_FnClocksOf: yours. -/
def laws_FnClocksOf.Pure : Prop := ∀ (l0 : List Int), l0.length ≤ maxLen → l0.length * 1 ≤ 140737488351232 → (∀ x ∈ l0, (Lit.int .u8 x).wf = true) → ∃ k, laws_FnClocksOf.f k l0 = some true
theorem laws_FnClocksOf.walk (P : laws_FnClocksOf.Pure) (a0 : Option Addr) (len0 cap0 : Nat) (z0 : List Int) (w : World) (w0 : (a0 = none ∧ len0 = 0 ∧ cap0 = 0 ∧ z0 = []) ∨ ∃ x, a0 = some x ∧ len0 ≤ cap0 ∧ cap0 ≤ maxLen ∧ z0.length = cap0 ∧ (∀ i, i < z0.length → w.cell? (x.add i) = some (.int .u8 (z0.getD i 0))) ∧ ∀ n ∈ z0, (Lit.int .u8 n).wf = true) (y0 : len0 * 1 ≤ 140737488351232) :
  Calls Try.prog 4 #[.slice a0 len0 cap0] w fun e w' => e = .returned (.bool true) ∧ Below w.heap.size w w' := by
 obtain ⟨l0, rfl, hr0, hm0, hw0, hc0⟩ := ReadsInt.ofRowC w0
 obtain ⟨k, h⟩ := P l0 hm0 y0 hw0
 refine (laws_FnClocksOf.calls k _ _ l0 true w (Kd.C_of_reads (d := (0 : Int)) (h1 := fun _ => rfl) hr0) hc0 h).mono ?_
 rintro e w' ⟨rfl, hd⟩
 exact ⟨rfl, hd⟩

end Go.Proofs.Ytgbjengnkbomoaa.PFnClocksOf
