-- made by wip/tools/myprint.py out of the seat's translation
import Derived.Test.YtgbjengnkbomoaaPFnKnowsx0
import Derived.Test.YtgbjengnkbomoaaPFnKnowsx1
import Derived.Test.YtgbjengnkbomoaaPFnKnowsx2
import Derived.Test.YtgbjengnkbomoaaPFnKnowsx4
import Derived.Test.YtgbjengnkbomoaaPFnKnowsx12
import Derived.Test.YtgbjengnkbomoaaPFnKnowsx13
namespace Go.Proofs.Ytgbjengnkbomoaa.PFnKnows
open Go.RowKit Go.Proofs.YtgbjengnkbomoaaW.PrintWords Go.Proofs.YtgbjengnkbomoaaW.PrintLast Go.Proofs.YtgbjengnkbomoaaW.PrintMore
attribute [local go_sem] max2_int min2_int max_two min_two max_three min_three max_four min_four   -- for this text's walks alone
set_option linter.unusedVariables false
set_option linter.unusedSimpArgs false
set_option maxHeartbeats 8000000
set_option maxRecDepth 100000
abbrev zq14_0 : Array Bool := #[false, false, false, false, false, false, false, false, false, false, false, false, false, false, false, false, false, false, false, false, false, false, false, false, false, false, false, false, false, false, false, false, false]

/-! ### laws_FnKnows: function 5 -/
mutual
def laws_FnKnows.l0 : Nat → Int → List (S31) → List (List Int) → Int → Option (Bool)
 | 0, _, _, _, _ => none
 | k + 1, x3, x4, x7, x8 => if x8 < (x7.length : Int) then (laws_FnKnows.l1 k x3 x4 x7 x8 (wrap64 (x8 + 1))) else (some true)
def laws_FnKnows.l1 : Nat → Int → List (S31) → List (List Int) → Int → Int → Option (Bool)
 | 0, _, _, _, _, _ => none
 | k + 1, x3, x4, x7, x8, x9 => if x9 < (x7.length : Int) then (if 0 ≤ x8 then (if x8 < (x4.length : Int) then (if 0 ≤ x9 then (if x9 < (x4.length : Int) then (if ((rd_T31 x4 x8).f0) = ((rd_T31 x4 x9).f0) then ((impl_Knows.f k x3 x4 x8 x9).bind fun t736 => (if t736 = true then ((impl_Knows.f k x3 x4 x9 x8).bind fun t737 => (if t737 = true then (laws_FnKnows.j2 k x3 x4 x7 x8 x9 true) else ((impl_Knows.f k x3 x4 x8 x8).bind fun t738 => (laws_FnKnows.j2 k x3 x4 x7 x8 x9 t738)))) else (laws_FnKnows.j2 k x3 x4 x7 x8 x9 true))) else ((impl_Knows.f k x3 x4 x9 x8).bind fun t739 => (if t739 = true then (laws_FnKnows.j2 k x3 x4 x7 x8 x9 true) else ((impl_Knows.f k x3 x4 x8 x8).bind fun t740 => (laws_FnKnows.j2 k x3 x4 x7 x8 x9 t740))))) else (none)) else (none)) else (none)) else (none)) else (laws_FnKnows.l0 k x3 x4 x7 (wrap64 (x8 + 1)))
def laws_FnKnows.j2 : Nat → Int → List (S31) → List (List Int) → Int → Int → Bool → Option (Bool)
 | 0, _, _, _, _, _, _ => none
 | k + 1, x3, x4, x7, x8, x9, x87 => if x87 = true then (some false) else (laws_FnKnows.l2 k x3 x4 x7 x8 x9 (wrap64 (x9 + 1)))
def laws_FnKnows.l2 : Nat → Int → List (S31) → List (List Int) → Int → Int → Int → Option (Bool)
 | 0, _, _, _, _, _, _ => none
 | k + 1, x3, x4, x7, x8, x9, x10 => if x10 < (x7.length : Int) then (laws_FnKnows.j4 k x3 x4 x7 x8 x9 x10 (decide (x10 < (wrap64 (x9 + 4))))) else (laws_FnKnows.j4 k x3 x4 x7 x8 x9 x10 false)
def laws_FnKnows.j4 : Nat → Int → List (S31) → List (List Int) → Int → Int → Int → Bool → Option (Bool)
 | 0, _, _, _, _, _, _, _ => none
 | k + 1, x3, x4, x7, x8, x9, x10, x99 => if x99 = true then ((impl_Knows.f k x3 x4 x8 x9).bind fun t741 => (if t741 = true then ((impl_Knows.f k x3 x4 x9 x10).bind fun t742 => (if t742 = true then ((impl_Knows.f k x3 x4 x8 x10).bind fun t743 => (if t743 = true then (laws_FnKnows.l2 k x3 x4 x7 x8 x9 (wrap64 (x10 + 1))) else (some false))) else (laws_FnKnows.l2 k x3 x4 x7 x8 x9 (wrap64 (x10 + 1))))) else (laws_FnKnows.l2 k x3 x4 x7 x8 x9 (wrap64 (x10 + 1))))) else (laws_FnKnows.l1 k x3 x4 x7 x8 (wrap64 (x9 + 1)))
end
def laws_FnKnows.f (k : Nat) (l0 : List Int) : Option (Bool) := (laws_big.f l0).bind fun t719 => (if t719 = true then (some true) else ((spec_DrawKnows.f k l0).bind fun bt720 => ((impl_Knows.f k bt720.1 bt720.2.1 bt720.2.2.1 bt720.2.2.2).bind fun t726 => ((spec_Knows.f k bt720.1 bt720.2.1 bt720.2.2.1 bt720.2.2.2).bind fun t727 => (if (t726 != t727) = true then (some false) else ((impl_Clocks.f k bt720.1 bt720.2.1).bind fun t728 => ((spec_Clocks.f k bt720.1 bt720.2.1).bind fun t731 => (if (t728.length : Int) = (t731.length : Int) then (laws_FnKnows.l0 k bt720.1 bt720.2.1 t728 0) else (some false)))))))))
theorem laws_FnKnows.mono_l : ∀ k, (∀ y0 y1 y2 y3, LeO (laws_FnKnows.l0 k y0 y1 y2 y3) (laws_FnKnows.l0 (k + 1) y0 y1 y2 y3)) ∧ (∀ y0 y1 y2 y3 y4, LeO (laws_FnKnows.l1 k y0 y1 y2 y3 y4) (laws_FnKnows.l1 (k + 1) y0 y1 y2 y3 y4)) ∧ (∀ y0 y1 y2 y3 y4 y5, LeO (laws_FnKnows.j2 k y0 y1 y2 y3 y4 y5) (laws_FnKnows.j2 (k + 1) y0 y1 y2 y3 y4 y5)) ∧ (∀ y0 y1 y2 y3 y4 y5, LeO (laws_FnKnows.l2 k y0 y1 y2 y3 y4 y5) (laws_FnKnows.l2 (k + 1) y0 y1 y2 y3 y4 y5)) ∧ (∀ y0 y1 y2 y3 y4 y5 y6, LeO (laws_FnKnows.j4 k y0 y1 y2 y3 y4 y5 y6) (laws_FnKnows.j4 (k + 1) y0 y1 y2 y3 y4 y5 y6))
 | 0 => ⟨fun _ _ _ _ r h => by simp [laws_FnKnows.l0] at h, fun _ _ _ _ _ r h => by simp [laws_FnKnows.l1] at h, fun _ _ _ _ _ _ r h => by simp [laws_FnKnows.j2] at h, fun _ _ _ _ _ _ r h => by simp [laws_FnKnows.l2] at h, fun _ _ _ _ _ _ _ r h => by simp [laws_FnKnows.j4] at h⟩
 | k + 1 => by
  obtain ⟨ih0, ih1, ih2, ih3, ih4⟩ := laws_FnKnows.mono_l k
  refine ⟨?_, ?_, ?_, ?_, ?_⟩
  ·intros
   unfold laws_FnKnows.l0
   have mo0 := @impl_Clocks.mono
   have mo1 := @impl_Knows.mono
   have mo2 := @spec_Clocks.mono
   have mo3 := @spec_DrawKnows.mono
   have mo4 := @spec_Knows.mono
   exact zL
  ·intros
   unfold laws_FnKnows.l1
   have mo0 := @impl_Clocks.mono
   have mo1 := @impl_Knows.mono
   have mo2 := @spec_Clocks.mono
   have mo3 := @spec_DrawKnows.mono
   have mo4 := @spec_Knows.mono
   exact zL
  ·intros
   unfold laws_FnKnows.j2
   have mo0 := @impl_Clocks.mono
   have mo1 := @impl_Knows.mono
   have mo2 := @spec_Clocks.mono
   have mo3 := @spec_DrawKnows.mono
   have mo4 := @spec_Knows.mono
   exact zL
  ·intros
   unfold laws_FnKnows.l2
   have mo0 := @impl_Clocks.mono
   have mo1 := @impl_Knows.mono
   have mo2 := @spec_Clocks.mono
   have mo3 := @spec_DrawKnows.mono
   have mo4 := @spec_Knows.mono
   exact zL
  ·intros
   unfold laws_FnKnows.j4
   have mo0 := @impl_Clocks.mono
   have mo1 := @impl_Knows.mono
   have mo2 := @spec_Clocks.mono
   have mo3 := @spec_DrawKnows.mono
   have mo4 := @spec_Knows.mono
   exact zL
theorem laws_FnKnows.mono : ∀ a0 k, LeO (laws_FnKnows.f k a0) (laws_FnKnows.f (k + 1) a0) := by
 intro a0 k
 obtain ⟨ih0, ih1, ih2, ih3, ih4⟩ := laws_FnKnows.mono_l k
 unfold laws_FnKnows.f
 have mo0 := @impl_Clocks.mono
 have mo1 := @impl_Knows.mono
 have mo2 := @spec_Clocks.mono
 have mo3 := @spec_DrawKnows.mono
 have mo4 := @spec_Knows.mono
 exact zL
def laws_FnKnows.T15 : Bool × List (List Nat × List Nat) := (true, [([], []), ([], []), ([0, 1], [0, 1]), ([2], [2]), ([3], [3]), ([], []), ([], []), ([5, 6], [5, 6]), ([7], [7]), ([8], [8]), ([4, 9], [4, 9]), ([10], [10]), ([11], [11]), ([11], [11]), ([11], [11]), ([11], [11]), ([12, 13, 14, 15, 11, 11], [11, 12, 13, 14, 15]), ([16, 11], [11, 16]), ([11, 17], [11, 17]), ([18, 16], [18]), ([19], [19]), ([19], [19]), ([19], [19]), ([19], [19]), ([20, 21, 22, 23, 19, 19], [19, 20, 21, 22, 23]), ([19, 24], [19, 24]), ([25, 24], [25]), ([26], [26]), ([26], [26]), ([26], [26]), ([26], [26]), ([27, 28, 29, 30, 26, 26], [26, 27, 28, 29, 30]), ([26, 31], [26, 31])])
def laws_FnKnows.B15 : List Nat := [0, 0, 3, 7, 15, 0, 0, 96, 224, 480, 1023, 2047, 4095, 4095, 4095, 4095, 65535, 131071, 262143, 524287, 1048575, 1048575, 1048575, 1048575, 16777215, 33554431, 67108863, 134217727, 134217727, 134217727, 134217727, 2147483647, 4294967295]
theorem laws_FnKnows.tab15 : rtab .any (opsOf Try.f5 15) = laws_FnKnows.T15 := by kernel_rfl
theorem laws_FnKnows.bits15 : waitsOk laws_FnKnows.T15.2 laws_FnKnows.B15 = true := by kernel_rfl
theorem laws_FnKnows.calls (k : Nat) (A0 : Option Addr) (c0 : Nat) (l0 : List Int) (r : Bool) (w : World) (hr0 : Kd.C (Kd.int .u8) w A0 l0.length l0) (hc0 : l0.length ≤ c0) (h : laws_FnKnows.f k l0 = some r) :
  Calls Try.prog 5 #[.slice A0 l0.length c0] w fun e w' => e = .returned (.bool r) ∧ Below w.heap.size w w' := by
 have HR0 := zM hr0
 have HC0 := zM hc0
 clear hr0 hc0
 have HB := zM (Below.refl w.heap.size w)
 unfold laws_FnKnows.f at h
 have H := h
 clear h
 replace H := zO H
 obtain ⟨t719, A2, H⟩ := H
 by_cases c3 : t719 = true
 ·subst c3
  rw [if_pos rfl] at H
  obtain rfl := Option.some.inj H
  go_enter Try.func5, Try.ntmps5
  go_wp2_with (first | ((with_reducible refine zG Try.func8 12 #[.slice A0 l0.length c0] ?_); (with_reducible refine (laws_big.calls _ _ l0 true _ ?side1 ?side2 A2.1).mono ?_); (case side1 => exact zC HR0.1); (case side2 => exact HC0.1); rintro e w' ⟨rfl, ⟨nd, rfl⟩⟩; refine ⟨_, rfl, ?_⟩))
  go_ret
  exact ⟨zE, zB1⟩
 replace c3 := Bool.eq_false_iff.mpr c3
 subst c3
 rw [if_neg zF] at H
 replace H := zO H
 obtain ⟨⟨t720, t721, t722, t723⟩, A4, H⟩ := H
 try dsimp only at H
 replace H := zO H
 obtain ⟨t726, A5, H⟩ := H
 replace H := zO H
 obtain ⟨t727, A6, H⟩ := H
 by_cases c7 : (t726 != t727) = true
 ·rw [if_pos c7] at H
  (try (have c7b1 : decide (t726 = t727) = false := by simpa using c7))
  (try (have c7b2 : (t726 == t727) = false := by simpa using c7))
  (try (have c7b3 : ¬ (t726 = t727) := by simpa using c7))
  clear c7
  obtain rfl := Option.some.inj H
  go_enter Try.func5, Try.ntmps5
  go_wp2_with (first | ((with_reducible refine zG Try.func8 12 #[.slice A0 l0.length c0] ?_); (with_reducible refine (laws_big.calls _ _ l0 false _ ?side1 ?side2 A2.1).mono ?_); (case side1 => exact zC HR0.1); (case side2 => exact HC0.1); rintro e w' ⟨rfl, ⟨nd, rfl⟩⟩; refine ⟨_, rfl, ?_⟩) | ((with_reducible refine zG Try.func15 15 #[.slice A0 l0.length c0] ?_); (with_reducible refine (spec_DrawKnows.calls k _ _ l0 t720 t721 t722 t723 _ ?side1 ?side2 A4.1).mono ?_); (case side1 => exact zC HR0.1); (case side2 => exact HC0.1); rintro e w8 ⟨v724, rfl, ho0, hb⟩; refine ⟨_, rfl, ?_⟩; have HO725 := zM (Kd.R_lower ho0 (below_size zB1)); replace HB := zM (below_step zB1 hb); clear hb ho0; obtain ⟨Ao9, co9, eo9⟩ := Kd.R_slice HO725.1; subst eo9) | ((with_reducible refine zG Try.func16 24 #[.int .i64 t720, .slice Ao9 t721.length co9, .int .i64 t722, .int .i64 t723] ?_); (with_reducible refine (impl_Knows.calls k t720 _ _ t721 t722 t723 t726 _ ?side1 ?side2 A5.1).mono ?_); (case side1 => exact zC (Kd.R_reads' HO725.1).2.2); (case side2 => exact (Kd.R_reads' HO725.1).2.1); rintro e w10 ⟨rfl, hb⟩; refine ⟨_, rfl, ?_⟩; replace HO725 := zM (Kd.R_below (zR HO725.1) hb); replace HB := zM (below_step zB1 hb); clear hb) | ((with_reducible refine zG Try.func17 29 #[.int .i64 t720, .slice Ao9 t721.length co9, .int .i64 t722, .int .i64 t723] ?_); (with_reducible refine (spec_Knows.calls k t720 _ _ t721 t722 t723 t727 _ ?side1 ?side2 A6.1).mono ?_); (case side1 => exact zC (Kd.R_reads' HO725.1).2.2); (case side2 => exact (Kd.R_reads' HO725.1).2.1); rintro e w11 ⟨rfl, hb⟩; refine ⟨_, rfl, ?_⟩; replace HB := zM (below_step zB1 hb); clear hb))
  go_ret
  exact ⟨zE, zB1⟩
 rw [if_neg c7] at H
 have c7b0 : (t726 != t727) = false := by simpa using c7
 (try (have c7b1 : decide (t726 = t727) = true := by simpa using c7))
 (try (have c7b2 : (t726 == t727) = true := by simpa using c7))
 clear c7
 replace H := zO H
 obtain ⟨t728, A12, H⟩ := H
 replace H := zO H
 obtain ⟨t731, A13, H⟩ := H
 by_cases c14 : (t728.length : Int) = (t731.length : Int)
 rotate_left
 ·rw [if_neg c14] at H
  have c14b1 : ((t728.length : Int) != (t731.length : Int)) = true := bne_iff_ne.mpr c14
  have c14b2 : (t728.length == t731.length) = false := by first | simpa using c14 | (simp at c14 ⊢; omega)
  obtain rfl := Option.some.inj H
  go_enter Try.func5, Try.ntmps5
  go_wp2_with (first | ((with_reducible refine zG Try.func8 12 #[.slice A0 l0.length c0] ?_); (with_reducible refine (laws_big.calls _ _ l0 false _ ?side1 ?side2 A2.1).mono ?_); (case side1 => exact zC HR0.1); (case side2 => exact HC0.1); rintro e w' ⟨rfl, ⟨nd, rfl⟩⟩; refine ⟨_, rfl, ?_⟩) | ((with_reducible refine zG Try.func15 15 #[.slice A0 l0.length c0] ?_); (with_reducible refine (spec_DrawKnows.calls k _ _ l0 t720 t721 t722 t723 _ ?side1 ?side2 A4.1).mono ?_); (case side1 => exact zC HR0.1); (case side2 => exact HC0.1); rintro e w72 ⟨v724, rfl, ho0, hb⟩; refine ⟨_, rfl, ?_⟩; have HO725 := zM (Kd.R_lower ho0 (below_size zB1)); replace HB := zM (below_step zB1 hb); clear hb ho0; obtain ⟨Ao73, co73, eo73⟩ := Kd.R_slice HO725.1; subst eo73) | ((with_reducible refine zG Try.func16 24 #[.int .i64 t720, .slice Ao73 t721.length co73, .int .i64 t722, .int .i64 t723] ?_); (with_reducible refine (impl_Knows.calls k t720 _ _ t721 t722 t723 t726 _ ?side1 ?side2 A5.1).mono ?_); (case side1 => exact zC (Kd.R_reads' HO725.1).2.2); (case side2 => exact (Kd.R_reads' HO725.1).2.1); rintro e w74 ⟨rfl, hb⟩; refine ⟨_, rfl, ?_⟩; replace HO725 := zM (Kd.R_below (zR HO725.1) hb); replace HB := zM (below_step zB1 hb); clear hb) | ((with_reducible refine zG Try.func17 29 #[.int .i64 t720, .slice Ao73 t721.length co73, .int .i64 t722, .int .i64 t723] ?_); (with_reducible refine (spec_Knows.calls k t720 _ _ t721 t722 t723 t727 _ ?side1 ?side2 A6.1).mono ?_); (case side1 => exact zC (Kd.R_reads' HO725.1).2.2); (case side2 => exact (Kd.R_reads' HO725.1).2.1); rintro e w75 ⟨rfl, hb⟩; refine ⟨_, rfl, ?_⟩; replace HO725 := zM (Kd.R_below (zR HO725.1) hb); replace HB := zM (below_step zB1 hb); clear hb) | ((with_reducible refine zG Try.func12 33 #[.int .i64 t720, .slice Ao73 t721.length co73] ?_); (with_reducible refine (impl_Clocks.calls k t720 _ _ t721 t728 _ ?side1 ?side2 A12.1).mono ?_); (case side1 => exact zC (Kd.R_reads' HO725.1).2.2); (case side2 => exact (Kd.R_reads' HO725.1).2.1); rintro e w76 ⟨v729, rfl, ho0, hb⟩; refine ⟨_, rfl, ?_⟩; replace HO725 := zM (Kd.R_below (zR HO725.1) hb); have HO730 := zM (Kd.S_lower ho0 (below_size zB1)); replace HB := zM (below_step zB1 hb); clear hb ho0; obtain ⟨Ao77, co77, eo77⟩ := Kd.S_slice HO730.1; subst eo77) | ((with_reducible refine zG Try.func13 38 #[.int .i64 t720, .slice Ao73 t721.length co73] ?_); (with_reducible refine (spec_Clocks.calls k t720 _ _ t721 t731 _ ?side1 ?side2 A13.1).mono ?_); (case side1 => exact zC (Kd.R_reads' HO725.1).2.2); (case side2 => exact (Kd.R_reads' HO725.1).2.1); rintro e w78 ⟨v732, rfl, ho0, hb⟩; refine ⟨_, rfl, ?_⟩; have HO733 := zM (Kd.S_lower (Kd.S_new' ho0 (Kd.S_lt (zS HO730.1))) (below_size zB1)); replace HB := zM (below_step zB1 hb); clear hb ho0; obtain ⟨Ao79, co79, eo79⟩ := Kd.S_slice HO733.1; subst eo79))
  go_ret
  exact ⟨zE, zB1⟩
 rw [if_pos c14] at H
 have c14b1 : ((t728.length : Int) != (t731.length : Int)) = false := bne_eq_false_iff_eq.mpr c14
 have c14b2 : (t728.length == t731.length) = true := by first | simpa using c14 | (simp at c14 ⊢; omega)
 clear c14
 have H' := zM H
 clear H
 go_enter Try.func5, Try.ntmps5
 go_wp2_with (first | ((with_reducible refine zG Try.func8 12 #[.slice A0 l0.length c0] ?_); (with_reducible refine (laws_big.calls _ _ l0 false _ ?side1 ?side2 A2.1).mono ?_); (case side1 => exact zC HR0.1); (case side2 => exact HC0.1); rintro e w' ⟨rfl, ⟨nd, rfl⟩⟩; refine ⟨_, rfl, ?_⟩) | ((with_reducible refine zG Try.func15 15 #[.slice A0 l0.length c0] ?_); (with_reducible refine (spec_DrawKnows.calls k _ _ l0 t720 t721 t722 t723 _ ?side1 ?side2 A4.1).mono ?_); (case side1 => exact zC HR0.1); (case side2 => exact HC0.1); rintro e w15 ⟨v724, rfl, ho0, hb⟩; refine ⟨_, rfl, ?_⟩; have HO725 := zM (Kd.R_lower ho0 (below_size zB1)); replace HB := zM (below_step zB1 hb); clear hb ho0; obtain ⟨Ao16, co16, eo16⟩ := Kd.R_slice HO725.1; subst eo16) | ((with_reducible refine zG Try.func16 24 #[.int .i64 t720, .slice Ao16 t721.length co16, .int .i64 t722, .int .i64 t723] ?_); (with_reducible refine (impl_Knows.calls k t720 _ _ t721 t722 t723 t726 _ ?side1 ?side2 A5.1).mono ?_); (case side1 => exact zC (Kd.R_reads' HO725.1).2.2); (case side2 => exact (Kd.R_reads' HO725.1).2.1); rintro e w17 ⟨rfl, hb⟩; refine ⟨_, rfl, ?_⟩; replace HO725 := zM (Kd.R_below (zR HO725.1) hb); replace HB := zM (below_step zB1 hb); clear hb) | ((with_reducible refine zG Try.func17 29 #[.int .i64 t720, .slice Ao16 t721.length co16, .int .i64 t722, .int .i64 t723] ?_); (with_reducible refine (spec_Knows.calls k t720 _ _ t721 t722 t723 t727 _ ?side1 ?side2 A6.1).mono ?_); (case side1 => exact zC (Kd.R_reads' HO725.1).2.2); (case side2 => exact (Kd.R_reads' HO725.1).2.1); rintro e w18 ⟨rfl, hb⟩; refine ⟨_, rfl, ?_⟩; replace HO725 := zM (Kd.R_below (zR HO725.1) hb); replace HB := zM (below_step zB1 hb); clear hb) | ((with_reducible refine zG Try.func12 33 #[.int .i64 t720, .slice Ao16 t721.length co16] ?_); (with_reducible refine (impl_Clocks.calls k t720 _ _ t721 t728 _ ?side1 ?side2 A12.1).mono ?_); (case side1 => exact zC (Kd.R_reads' HO725.1).2.2); (case side2 => exact (Kd.R_reads' HO725.1).2.1); rintro e w19 ⟨v729, rfl, ho0, hb⟩; refine ⟨_, rfl, ?_⟩; replace HO725 := zM (Kd.R_below (zR HO725.1) hb); have HO730 := zM (Kd.S_lower ho0 (below_size zB1)); replace HB := zM (below_step zB1 hb); clear hb ho0; obtain ⟨Ao20, co20, eo20⟩ := Kd.S_slice HO730.1; subst eo20) | ((with_reducible refine zG Try.func13 38 #[.int .i64 t720, .slice Ao16 t721.length co16] ?_); (with_reducible refine (spec_Clocks.calls k t720 _ _ t721 t731 _ ?side1 ?side2 A13.1).mono ?_); (case side1 => exact zC (Kd.R_reads' HO725.1).2.2); (case side2 => exact (Kd.R_reads' HO725.1).2.1); rintro e w21 ⟨v732, rfl, ho0, hb⟩; refine ⟨_, rfl, ?_⟩; replace HO725 := zM (Kd.R_below (zR HO725.1) hb); have HO733 := zM (Kd.S_lower (Kd.S_new' ho0 (Kd.S_lt (zS HO730.1))) (below_size zB1)); replace HO730 := zM (Kd.S_elder' (zS HO730.1) (Kd.S_base ho0) hb); replace HB := zM (below_step zB1 hb); clear hb ho0; obtain ⟨Ao22, co22, eo22⟩ := Kd.S_slice HO733.1; subst eo22))
 go_loopg [8] k (fun kq v8 w' => ∃ (x8_1 : Int), v8 = .int .i64 x8_1 ∧ Aside0 (laws_FnKnows.l0 kq t720 t721 t728 x8_1 = some r) ∧ Aside0 (kq ≤ k) ∧ Aside0 (Kd.R k31 31 w' w.heap.size (fun _ => True) (.slice Ao16 t721.length co16) t721) ∧ Aside0 (Kd.S (Kd.slice 3 (Kd.int .i64)) 29 w' w.heap.size (fun _ => True) (.slice Ao20 t728.length co20) t728) ∧ Aside0 (Below w.heap.size w w'))
 case atStart => exact ⟨(0), zJJ, H', ⟨Nat.le_refl _⟩, ⟨zR HO725.1⟩, ⟨by refine zrS ?_; exact Kd.S_mono HO730.1 (fun _ hk => trivial)⟩, ⟨zB1⟩⟩
 case round =>
  clear H'
  try clear c1
  try clear p2
  try clear c3
  try clear c5
  try clear c7
  try clear c7b0
  try clear c7b1
  try clear c7b2
  try clear c8
  try clear c12
  try clear c13
  try clear c14
  try clear c14b0
  try clear c14b1
  try clear c14b2
  try clear c15
  try clear c16
  try clear c17
  obtain ⟨x8_1, rfl, HA, HK1, HO_4, HO_7, HB⟩ := hrel
  cases gk with
  | zero => exact absurd HA.1 (by simp [laws_FnKnows.l0])
  | succ k1 =>
   have H := HA.1
   clear HA
   simp only [laws_FnKnows.l0] at H
   by_cases c23 : x8_1 < (t728.length : Int)
   rotate_left
   ·rw [if_neg c23] at H
    have c23b0 := decide_eq_false c23
    clear c23
    obtain rfl := Option.some.inj H
    go_wp2
    go_ret
    exact ⟨zE, zB1⟩
   rw [if_pos c23] at H
   have c23b0 := decide_eq_true c23
   clear c23
   have H' := zM H
   clear H
   go_wp2
   go_loopg [9] k1 (fun kq v9 w' => ∃ (x9_2 : Int), v9 = .int .i64 x9_2 ∧ Aside0 (laws_FnKnows.l1 kq t720 t721 t728 x8_1 x9_2 = some r) ∧ Aside0 (kq ≤ k1) ∧ Aside0 (Kd.R k31 31 w' w.heap.size (fun _ => True) (.slice Ao16 t721.length co16) t721) ∧ Aside0 (Kd.S (Kd.slice 3 (Kd.int .i64)) 29 w' w.heap.size (fun _ => True) (.slice Ao20 t728.length co20) t728) ∧ Aside0 (Below w.heap.size w w'))
   case atStart => exact ⟨(wrap64 (x8_1 + 1)), zJJ, H', ⟨Nat.le_refl _⟩, ⟨zR HO_4.1⟩, ⟨zS HO_7.1⟩, ⟨zB1⟩⟩
   case round =>
    clear H'
    try clear c1
    try clear c2
    try clear p2
    try clear c3
    try clear c5
    try clear p6
    try clear c7
    try clear c7b0
    try clear c7b1
    try clear c7b2
    try clear c8
    try clear c12
    try clear c13
    try clear c14
    try clear c14b0
    try clear c14b1
    try clear c14b2
    try clear c15
    try clear c16
    try clear c17
    try clear c23
    try clear c23b0
    try clear p2
    obtain ⟨x9_2, rfl, HA, HK2, HO_4, HO_7, HB⟩ := hrel
    cases gk with
    | zero => exact absurd HA.1 (by simp [laws_FnKnows.l1])
    | succ k2 =>
     have H := HA.1
     clear HA
     simp only [laws_FnKnows.l1] at H
     by_cases c24 : x9_2 < (t728.length : Int)
     rotate_left
     ·rw [if_neg c24] at H
      have c24b0 := decide_eq_false c24
      clear c24
      have H' := zM H
      clear H
      go_wp2
      go_roundg k2
      case measure => have := HK1.1; have := HK2.1; omega
      case rel => exact ⟨(wrap64 (x8_1 + 1)), zJJ, H', ⟨by have := HK1.1; have := HK2.1; omega⟩, ⟨zR HO_4.1⟩, ⟨zS HO_7.1⟩, ⟨zB1⟩⟩
     rw [if_pos c24] at H
     have c24b0 := decide_eq_true c24
     clear c24
     have HC25 := zM H
     clear H
     go_upto_region 15 with (fail)
     go_cut [87] (fun v87 wc => ∃ (kq : Nat) (x87_24 : Bool), v87 = .bool x87_24 ∧ Aside0 (laws_FnKnows.j2 kq t720 t721 t728 x8_1 x9_2 x87_24 = some r) ∧ Aside0 (kq ≤ k2) ∧ Aside0 (Kd.R k31 31 wc w.heap.size (fun _ => True) (.slice Ao16 t721.length co16) t721) ∧ Aside0 (Kd.S (Kd.slice 3 (Kd.int .i64)) 29 wc w.heap.size (fun _ => True) (.slice Ao20 t728.length co20) t728) ∧ Aside0 (Below w.heap.size w wc))
     case first =>
      have H := HC25.1
      clear HC25
      replace H := zIt H
      obtain ⟨c26b0, H⟩ := H
      (first | rw [c26b0] | (simp only [i64_w, i32_w]; rw [c26b0]) | skip)
      replace H := zIt H
      obtain ⟨c27b0, H⟩ := H
      replace H := zIt H
      obtain ⟨c28b0, H⟩ := H
      replace H := zIt H
      obtain ⟨c29b0, H⟩ := H
      by_cases c30 : ((rd_T31 t721 x8_1).f0) = ((rd_T31 t721 x9_2).f0)
      rotate_left
      ·rw [if_neg c30] at H
       have c30b0 : (((rd_T31 t721 x8_1).f0) == ((rd_T31 t721 x9_2).f0)) = false := beq_eq_false_iff_ne.mpr c30
       replace H := zO H
       obtain ⟨t739, A45, H⟩ := H
       by_cases c46 : t739 = true
       ·subst c46
        rw [if_pos rfl] at H
        have H' := zM H
        clear H
        try go_wp2
        replace HO_4 := zM (Kd.R_drew HO_4.1)
        replace HO_7 := zM (Kd.S_drew HO_7.1)
        replace HB := zM (below_drew1 HB.1)
        have p734 : 0 ≤ (x8_1 : Int) := zA
        have q734 : x8_1 < (t721.length : Int) := zA
        obtain ⟨ad734, e734, hx734_0, hx734_1, hx734_2, hx734_3, hx734_4⟩ := at_T31 (Kd.R_reads' HO_4.1).2.2 x8_1 p734 q734
        cases e734
        replace p734 := eq_true p734
        replace q734 := eq_true q734
        have p735 : 0 ≤ (x9_2 : Int) := zA
        have q735 : x9_2 < (t721.length : Int) := zA
        obtain ⟨ad735, e735, hx735_0, hx735_1, hx735_2, hx735_3, hx735_4⟩ := at_T31 (Kd.R_reads' HO_4.1).2.2 x9_2 p735 q735
        obtain rfl : ad734 = ad735 := (by injection e735)
        replace p735 := eq_true p735
        replace q735 := eq_true q735
        refine start_ (n := 33) (S := fun w' => w'.cell? (ad734.add ((x8_1).toNat * 5)) = some (.int .i64 ((rd_T31 t721 x8_1).f0)) ∧ w'.cell? ⟨(ad734.add ((x8_1).toNat * 5)).block, (ad734.add ((x8_1).toNat * 5)).off + 1, none⟩ = some (.int .i64 ((rd_T31 t721 x8_1).f1)) ∧ w'.cell? ⟨(ad734.add ((x8_1).toNat * 5)).block, (ad734.add ((x8_1).toNat * 5)).off + 2, none⟩ = some (.int .i64 ((rd_T31 t721 x8_1).f2)) ∧ w'.cell? ⟨(ad734.add ((x8_1).toNat * 5)).block, (ad734.add ((x8_1).toNat * 5)).off + 3, none⟩ = some (.int .i64 ((rd_T31 t721 x8_1).f3)) ∧ w'.cell? ⟨(ad734.add ((x8_1).toNat * 5)).block, (ad734.add ((x8_1).toNat * 5)).off + 4, none⟩ = some (.int .i64 ((rd_T31 t721 x8_1).f4)) ∧ w'.cell? (ad734.add ((x9_2).toNat * 5)) = some (.int .i64 ((rd_T31 t721 x9_2).f0)) ∧ w'.cell? ⟨(ad734.add ((x9_2).toNat * 5)).block, (ad734.add ((x9_2).toNat * 5)).off + 1, none⟩ = some (.int .i64 ((rd_T31 t721 x9_2).f1)) ∧ w'.cell? ⟨(ad734.add ((x9_2).toNat * 5)).block, (ad734.add ((x9_2).toNat * 5)).off + 2, none⟩ = some (.int .i64 ((rd_T31 t721 x9_2).f2)) ∧ w'.cell? ⟨(ad734.add ((x9_2).toNat * 5)).block, (ad734.add ((x9_2).toNat * 5)).off + 3, none⟩ = some (.int .i64 ((rd_T31 t721 x9_2).f3)) ∧ w'.cell? ⟨(ad734.add ((x9_2).toNat * 5)).block, (ad734.add ((x9_2).toNat * 5)).off + 4, none⟩ = some (.int .i64 ((rd_T31 t721 x9_2).f4))) (ds := []) zq14_0 (by kernel_rfl) rfl rfl ⟨hx734_0, hx734_1, hx734_2, hx734_3, hx734_4, hx735_0, hx735_1, hx735_2, hx735_3, hx735_4⟩ (fun hHeld => ?_); refine with_tabW laws_FnKnows.tab15 laws_FnKnows.bits15 (fun HT_ HW_ => ?_)
        generalize wr.drew = w47 at HO_4 HO_7 HB hx734_0 hx734_1 hx734_2 hx734_3 hx734_4 hx735_0 hx735_1 hx735_2 hx735_3 hx735_4 hHeld ⊢
        refine zPu 0 ?_
        refine zPu 1 ?_
        refine zPu 2 ?_
        refine zPu 3 ?_
        refine zPu 5 ?_
        refine zPu 6 ?_
        refine zPu 7 ?_
        refine zPu 8 ?_
        refine zTk10 4 hHeld ?_
        refine zTk10 9 hHeld ?_
        refine zPu 10 ?_
        refine zPu 11 ?_
        refine zPn 12 ?_
        refine zPn 13 ?_
        refine zPn 14 ?_
        refine zPn 15 ?_
        refine zPn 16 ?_
        refine zPn 17 ?_
        refine zPu 18 ?_
        refine zPu 19 ?_
        refine zPu 20 ?_
        refine zPu 21 ?_
        refine zPu 22 ?_
        refine zPu 23 ?_
        refine zOn 24 (some 79) fun K hK => ?_
        refine zGs Try.func16 #[.int .i64 t720, .slice (some ad734) t721.length co16, .int .i64 x9_2, .int .i64 x8_1] ?_
        with_reducible refine (impl_Knows.calls k2 t720 _ _ t721 x9_2 x8_1 true _ ?side1 ?side2 A45.1).mono ?_
        (case side1 => exact zC (Kd.R_reads' HO_4.1).2.2)
        (case side2 => exact (Kd.R_reads' HO_4.1).2.1)
        rintro e w48 ⟨rfl, hb⟩
        refine ⟨_, rfl, ?_⟩
        replace HO_4 := zM (Kd.R_below (zR HO_4.1) hb)
        replace HO_7 := zM (Kd.S_below (zS HO_7.1) hb)
        replace HB := zM (below_step zB1 hb)
        refine hK.out _ _ zCs fun hHeld => ?_
        clear hK K
        refine zNo ?_
        refine zPu 25 ?_
        refine zPu 26 ?_
        refine zPn 27 ?_
        refine zPn 28 ?_
        refine zPn 29 ?_
        refine zPn 30 ?_
        refine zPn 31 ?_
        refine zPu 32 ?_
        refine done_ (done_of HT_.1 (by kernel_rfl)) ?_
        try go_wp2
        go_meet
        case rel => exact ⟨_, (true), zJJ, H', ⟨by have := HK1.1; have := HK2.1; first | omega | exact Nat.le_refl _⟩, ⟨zR HO_4.1⟩, ⟨zS HO_7.1⟩, ⟨zB1⟩⟩
       replace c46 := Bool.eq_false_iff.mpr c46
       subst c46
       rw [if_neg zF] at H
       replace H := zO H
       obtain ⟨t740, A49, H⟩ := H
       have H' := zM H
       clear H
       try go_wp2
       replace HO_4 := zM (Kd.R_drew HO_4.1)
       replace HO_7 := zM (Kd.S_drew HO_7.1)
       replace HB := zM (below_drew1 HB.1)
       have p734 : 0 ≤ (x8_1 : Int) := zA
       have q734 : x8_1 < (t721.length : Int) := zA
       obtain ⟨ad734, e734, hx734_0, hx734_1, hx734_2, hx734_3, hx734_4⟩ := at_T31 (Kd.R_reads' HO_4.1).2.2 x8_1 p734 q734
       cases e734
       replace p734 := eq_true p734
       replace q734 := eq_true q734
       have p735 : 0 ≤ (x9_2 : Int) := zA
       have q735 : x9_2 < (t721.length : Int) := zA
       obtain ⟨ad735, e735, hx735_0, hx735_1, hx735_2, hx735_3, hx735_4⟩ := at_T31 (Kd.R_reads' HO_4.1).2.2 x9_2 p735 q735
       obtain rfl : ad734 = ad735 := (by injection e735)
       replace p735 := eq_true p735
       replace q735 := eq_true q735
       refine start_ (n := 33) (S := fun w' => w'.cell? (ad734.add ((x8_1).toNat * 5)) = some (.int .i64 ((rd_T31 t721 x8_1).f0)) ∧ w'.cell? ⟨(ad734.add ((x8_1).toNat * 5)).block, (ad734.add ((x8_1).toNat * 5)).off + 1, none⟩ = some (.int .i64 ((rd_T31 t721 x8_1).f1)) ∧ w'.cell? ⟨(ad734.add ((x8_1).toNat * 5)).block, (ad734.add ((x8_1).toNat * 5)).off + 2, none⟩ = some (.int .i64 ((rd_T31 t721 x8_1).f2)) ∧ w'.cell? ⟨(ad734.add ((x8_1).toNat * 5)).block, (ad734.add ((x8_1).toNat * 5)).off + 3, none⟩ = some (.int .i64 ((rd_T31 t721 x8_1).f3)) ∧ w'.cell? ⟨(ad734.add ((x8_1).toNat * 5)).block, (ad734.add ((x8_1).toNat * 5)).off + 4, none⟩ = some (.int .i64 ((rd_T31 t721 x8_1).f4)) ∧ w'.cell? (ad734.add ((x9_2).toNat * 5)) = some (.int .i64 ((rd_T31 t721 x9_2).f0)) ∧ w'.cell? ⟨(ad734.add ((x9_2).toNat * 5)).block, (ad734.add ((x9_2).toNat * 5)).off + 1, none⟩ = some (.int .i64 ((rd_T31 t721 x9_2).f1)) ∧ w'.cell? ⟨(ad734.add ((x9_2).toNat * 5)).block, (ad734.add ((x9_2).toNat * 5)).off + 2, none⟩ = some (.int .i64 ((rd_T31 t721 x9_2).f2)) ∧ w'.cell? ⟨(ad734.add ((x9_2).toNat * 5)).block, (ad734.add ((x9_2).toNat * 5)).off + 3, none⟩ = some (.int .i64 ((rd_T31 t721 x9_2).f3)) ∧ w'.cell? ⟨(ad734.add ((x9_2).toNat * 5)).block, (ad734.add ((x9_2).toNat * 5)).off + 4, none⟩ = some (.int .i64 ((rd_T31 t721 x9_2).f4))) (ds := []) zq14_0 (by kernel_rfl) rfl rfl ⟨hx734_0, hx734_1, hx734_2, hx734_3, hx734_4, hx735_0, hx735_1, hx735_2, hx735_3, hx735_4⟩ (fun hHeld => ?_); refine with_tabW laws_FnKnows.tab15 laws_FnKnows.bits15 (fun HT_ HW_ => ?_)
       generalize wr.drew = w50 at HO_4 HO_7 HB hx734_0 hx734_1 hx734_2 hx734_3 hx734_4 hx735_0 hx735_1 hx735_2 hx735_3 hx735_4 hHeld ⊢
       refine zPu 0 ?_
       refine zPu 1 ?_
       refine zPu 2 ?_
       refine zPu 3 ?_
       refine zPu 5 ?_
       refine zPu 6 ?_
       refine zPu 7 ?_
       refine zPu 8 ?_
       refine zTk10 4 hHeld ?_
       refine zTk10 9 hHeld ?_
       refine zPu 10 ?_
       refine zPu 11 ?_
       refine zPn 12 ?_
       refine zPn 13 ?_
       refine zPn 14 ?_
       refine zPn 15 ?_
       refine zPn 16 ?_
       refine zPn 17 ?_
       refine zPu 18 ?_
       refine zPu 19 ?_
       refine zPu 20 ?_
       refine zPu 21 ?_
       refine zPu 22 ?_
       refine zPu 23 ?_
       refine zOn 24 (some 79) fun K hK => ?_
       refine zGs Try.func16 #[.int .i64 t720, .slice (some ad734) t721.length co16, .int .i64 x9_2, .int .i64 x8_1] ?_
       with_reducible refine (impl_Knows.calls k2 t720 _ _ t721 x9_2 x8_1 false _ ?side1 ?side2 A45.1).mono ?_
       (case side1 => exact zC (Kd.R_reads' HO_4.1).2.2)
       (case side2 => exact (Kd.R_reads' HO_4.1).2.1)
       rintro e w51 ⟨rfl, hb⟩
       refine ⟨_, rfl, ?_⟩
       replace HO_4 := zM (Kd.R_below (zR HO_4.1) hb)
       replace HO_7 := zM (Kd.S_below (zS HO_7.1) hb)
       replace HB := zM (below_step zB1 hb)
       refine hK.out _ _ zCs fun hHeld => ?_
       clear hK K
       refine zNo ?_
       refine zPu 25 ?_
       refine zPu 26 ?_
       refine zPu 27 ?_
       refine zPu 28 ?_
       refine zPu 29 ?_
       refine zPu 30 ?_
       refine zOn 31 (some 86) fun K hK => ?_
       refine zGs Try.func16 #[.int .i64 t720, .slice (some ad734) t721.length co16, .int .i64 x8_1, .int .i64 x8_1] ?_
       with_reducible refine (impl_Knows.calls k2 t720 _ _ t721 x8_1 x8_1 t740 _ ?side1 ?side2 A49.1).mono ?_
       (case side1 => exact zC (Kd.R_reads' HO_4.1).2.2)
       (case side2 => exact (Kd.R_reads' HO_4.1).2.1)
       rintro e w52 ⟨rfl, hb⟩
       refine ⟨_, rfl, ?_⟩
       replace HO_4 := zM (Kd.R_below (zR HO_4.1) hb)
       replace HO_7 := zM (Kd.S_below (zS HO_7.1) hb)
       replace HB := zM (below_step zB1 hb)
       refine hK.out _ _ zCs fun hHeld => ?_
       clear hK K
       refine zNo ?_
       refine zPu 32 ?_
       refine done_ (done_of HT_.1 (by kernel_rfl)) ?_
       try go_wp2
       go_meet
       case rel => exact ⟨_, (t740), zJJ, H', ⟨by have := HK1.1; have := HK2.1; first | omega | exact Nat.le_refl _⟩, ⟨zR HO_4.1⟩, ⟨zS HO_7.1⟩, ⟨zB1⟩⟩
      rw [if_pos c30] at H
      have c30b0 : (((rd_T31 t721 x8_1).f0) == ((rd_T31 t721 x9_2).f0)) = true := beq_iff_eq.mpr c30
      clear c30
      replace H := zO H
      obtain ⟨t736, A31, H⟩ := H
      by_cases c32 : t736 = true
      rotate_left
      ·replace c32 := Bool.eq_false_iff.mpr c32
       subst c32
       rw [if_neg zF] at H
       have H' := zM H
       clear H
       try go_wp2
       replace HO_4 := zM (Kd.R_drew HO_4.1)
       replace HO_7 := zM (Kd.S_drew HO_7.1)
       replace HB := zM (below_drew1 HB.1)
       have p734 : 0 ≤ (x8_1 : Int) := zA
       have q734 : x8_1 < (t721.length : Int) := zA
       obtain ⟨ad734, e734, hx734_0, hx734_1, hx734_2, hx734_3, hx734_4⟩ := at_T31 (Kd.R_reads' HO_4.1).2.2 x8_1 p734 q734
       cases e734
       replace p734 := eq_true p734
       replace q734 := eq_true q734
       have p735 : 0 ≤ (x9_2 : Int) := zA
       have q735 : x9_2 < (t721.length : Int) := zA
       obtain ⟨ad735, e735, hx735_0, hx735_1, hx735_2, hx735_3, hx735_4⟩ := at_T31 (Kd.R_reads' HO_4.1).2.2 x9_2 p735 q735
       obtain rfl : ad734 = ad735 := (by injection e735)
       replace p735 := eq_true p735
       replace q735 := eq_true q735
       refine start_ (n := 33) (S := fun w' => w'.cell? (ad734.add ((x8_1).toNat * 5)) = some (.int .i64 ((rd_T31 t721 x8_1).f0)) ∧ w'.cell? ⟨(ad734.add ((x8_1).toNat * 5)).block, (ad734.add ((x8_1).toNat * 5)).off + 1, none⟩ = some (.int .i64 ((rd_T31 t721 x8_1).f1)) ∧ w'.cell? ⟨(ad734.add ((x8_1).toNat * 5)).block, (ad734.add ((x8_1).toNat * 5)).off + 2, none⟩ = some (.int .i64 ((rd_T31 t721 x8_1).f2)) ∧ w'.cell? ⟨(ad734.add ((x8_1).toNat * 5)).block, (ad734.add ((x8_1).toNat * 5)).off + 3, none⟩ = some (.int .i64 ((rd_T31 t721 x8_1).f3)) ∧ w'.cell? ⟨(ad734.add ((x8_1).toNat * 5)).block, (ad734.add ((x8_1).toNat * 5)).off + 4, none⟩ = some (.int .i64 ((rd_T31 t721 x8_1).f4)) ∧ w'.cell? (ad734.add ((x9_2).toNat * 5)) = some (.int .i64 ((rd_T31 t721 x9_2).f0)) ∧ w'.cell? ⟨(ad734.add ((x9_2).toNat * 5)).block, (ad734.add ((x9_2).toNat * 5)).off + 1, none⟩ = some (.int .i64 ((rd_T31 t721 x9_2).f1)) ∧ w'.cell? ⟨(ad734.add ((x9_2).toNat * 5)).block, (ad734.add ((x9_2).toNat * 5)).off + 2, none⟩ = some (.int .i64 ((rd_T31 t721 x9_2).f2)) ∧ w'.cell? ⟨(ad734.add ((x9_2).toNat * 5)).block, (ad734.add ((x9_2).toNat * 5)).off + 3, none⟩ = some (.int .i64 ((rd_T31 t721 x9_2).f3)) ∧ w'.cell? ⟨(ad734.add ((x9_2).toNat * 5)).block, (ad734.add ((x9_2).toNat * 5)).off + 4, none⟩ = some (.int .i64 ((rd_T31 t721 x9_2).f4))) (ds := []) zq14_0 (by kernel_rfl) rfl rfl ⟨hx734_0, hx734_1, hx734_2, hx734_3, hx734_4, hx735_0, hx735_1, hx735_2, hx735_3, hx735_4⟩ (fun hHeld => ?_); refine with_tabW laws_FnKnows.tab15 laws_FnKnows.bits15 (fun HT_ HW_ => ?_)
       generalize wr.drew = w43 at HO_4 HO_7 HB hx734_0 hx734_1 hx734_2 hx734_3 hx734_4 hx735_0 hx735_1 hx735_2 hx735_3 hx735_4 hHeld ⊢
       refine zPu 0 ?_
       refine zPu 1 ?_
       refine zPu 2 ?_
       refine zPu 3 ?_
       refine zPu 5 ?_
       refine zPu 6 ?_
       refine zPu 7 ?_
       refine zPu 8 ?_
       refine zTk10 4 hHeld ?_
       refine zTk10 9 hHeld ?_
       refine zPu 10 ?_
       refine zPu 11 ?_
       refine zPu 12 ?_
       refine zPu 13 ?_
       refine zPu 14 ?_
       refine zPu 15 ?_
       refine zOn 16 (some 71) fun K hK => ?_
       refine zGs Try.func16 #[.int .i64 t720, .slice (some ad734) t721.length co16, .int .i64 x8_1, .int .i64 x9_2] ?_
       with_reducible refine (impl_Knows.calls k2 t720 _ _ t721 x8_1 x9_2 false _ ?side1 ?side2 A31.1).mono ?_
       (case side1 => exact zC (Kd.R_reads' HO_4.1).2.2)
       (case side2 => exact (Kd.R_reads' HO_4.1).2.1)
       rintro e w44 ⟨rfl, hb⟩
       refine ⟨_, rfl, ?_⟩
       replace HO_4 := zM (Kd.R_below (zR HO_4.1) hb)
       replace HO_7 := zM (Kd.S_below (zS HO_7.1) hb)
       replace HB := zM (below_step zB1 hb)
       refine hK.out _ _ zCs fun hHeld => ?_
       clear hK K
       refine zNo ?_
       refine zPu 17 ?_
       refine zPu 18 ?_
       refine zPu 19 ?_
       refine zPn 20 ?_
       refine zPn 21 ?_
       refine zPn 22 ?_
       refine zPn 23 ?_
       refine zPn 24 ?_
       refine zPu 25 ?_
       refine zPu 26 ?_
       refine zPn 27 ?_
       refine zPn 28 ?_
       refine zPn 29 ?_
       refine zPn 30 ?_
       refine zPn 31 ?_
       refine zPu 32 ?_
       refine done_ (done_of HT_.1 (by kernel_rfl)) ?_
       try go_wp2
       go_meet
       case rel => exact ⟨_, (true), zJJ, H', ⟨by have := HK1.1; have := HK2.1; first | omega | exact Nat.le_refl _⟩, ⟨zR HO_4.1⟩, ⟨zS HO_7.1⟩, ⟨zB1⟩⟩
      subst c32
      rw [if_pos rfl] at H
      replace H := zO H
      obtain ⟨t737, A33, H⟩ := H
      by_cases c34 : t737 = true
      ·subst c34
       rw [if_pos rfl] at H
       have H' := zM H
       clear H
       try go_wp2
       replace HO_4 := zM (Kd.R_drew HO_4.1)
       replace HO_7 := zM (Kd.S_drew HO_7.1)
       replace HB := zM (below_drew1 HB.1)
       have p734 : 0 ≤ (x8_1 : Int) := zA
       have q734 : x8_1 < (t721.length : Int) := zA
       obtain ⟨ad734, e734, hx734_0, hx734_1, hx734_2, hx734_3, hx734_4⟩ := at_T31 (Kd.R_reads' HO_4.1).2.2 x8_1 p734 q734
       cases e734
       replace p734 := eq_true p734
       replace q734 := eq_true q734
       have p735 : 0 ≤ (x9_2 : Int) := zA
       have q735 : x9_2 < (t721.length : Int) := zA
       obtain ⟨ad735, e735, hx735_0, hx735_1, hx735_2, hx735_3, hx735_4⟩ := at_T31 (Kd.R_reads' HO_4.1).2.2 x9_2 p735 q735
       obtain rfl : ad734 = ad735 := (by injection e735)
       replace p735 := eq_true p735
       replace q735 := eq_true q735
       refine start_ (n := 33) (S := fun w' => w'.cell? (ad734.add ((x8_1).toNat * 5)) = some (.int .i64 ((rd_T31 t721 x8_1).f0)) ∧ w'.cell? ⟨(ad734.add ((x8_1).toNat * 5)).block, (ad734.add ((x8_1).toNat * 5)).off + 1, none⟩ = some (.int .i64 ((rd_T31 t721 x8_1).f1)) ∧ w'.cell? ⟨(ad734.add ((x8_1).toNat * 5)).block, (ad734.add ((x8_1).toNat * 5)).off + 2, none⟩ = some (.int .i64 ((rd_T31 t721 x8_1).f2)) ∧ w'.cell? ⟨(ad734.add ((x8_1).toNat * 5)).block, (ad734.add ((x8_1).toNat * 5)).off + 3, none⟩ = some (.int .i64 ((rd_T31 t721 x8_1).f3)) ∧ w'.cell? ⟨(ad734.add ((x8_1).toNat * 5)).block, (ad734.add ((x8_1).toNat * 5)).off + 4, none⟩ = some (.int .i64 ((rd_T31 t721 x8_1).f4)) ∧ w'.cell? (ad734.add ((x9_2).toNat * 5)) = some (.int .i64 ((rd_T31 t721 x9_2).f0)) ∧ w'.cell? ⟨(ad734.add ((x9_2).toNat * 5)).block, (ad734.add ((x9_2).toNat * 5)).off + 1, none⟩ = some (.int .i64 ((rd_T31 t721 x9_2).f1)) ∧ w'.cell? ⟨(ad734.add ((x9_2).toNat * 5)).block, (ad734.add ((x9_2).toNat * 5)).off + 2, none⟩ = some (.int .i64 ((rd_T31 t721 x9_2).f2)) ∧ w'.cell? ⟨(ad734.add ((x9_2).toNat * 5)).block, (ad734.add ((x9_2).toNat * 5)).off + 3, none⟩ = some (.int .i64 ((rd_T31 t721 x9_2).f3)) ∧ w'.cell? ⟨(ad734.add ((x9_2).toNat * 5)).block, (ad734.add ((x9_2).toNat * 5)).off + 4, none⟩ = some (.int .i64 ((rd_T31 t721 x9_2).f4))) (ds := []) zq14_0 (by kernel_rfl) rfl rfl ⟨hx734_0, hx734_1, hx734_2, hx734_3, hx734_4, hx735_0, hx735_1, hx735_2, hx735_3, hx735_4⟩ (fun hHeld => ?_); refine with_tabW laws_FnKnows.tab15 laws_FnKnows.bits15 (fun HT_ HW_ => ?_)
       generalize wr.drew = w35 at HO_4 HO_7 HB hx734_0 hx734_1 hx734_2 hx734_3 hx734_4 hx735_0 hx735_1 hx735_2 hx735_3 hx735_4 hHeld ⊢
       refine zPu 0 ?_
       refine zPu 1 ?_
       refine zPu 2 ?_
       refine zPu 3 ?_
       refine zPu 5 ?_
       refine zPu 6 ?_
       refine zPu 7 ?_
       refine zPu 8 ?_
       refine zTk10 4 hHeld ?_
       refine zTk10 9 hHeld ?_
       refine zPu 10 ?_
       refine zPu 11 ?_
       refine zPu 12 ?_
       refine zPu 13 ?_
       refine zPu 14 ?_
       refine zPu 15 ?_
       refine zOn 16 (some 71) fun K hK => ?_
       refine zGs Try.func16 #[.int .i64 t720, .slice (some ad734) t721.length co16, .int .i64 x8_1, .int .i64 x9_2] ?_
       with_reducible refine (impl_Knows.calls k2 t720 _ _ t721 x8_1 x9_2 true _ ?side1 ?side2 A31.1).mono ?_
       (case side1 => exact zC (Kd.R_reads' HO_4.1).2.2)
       (case side2 => exact (Kd.R_reads' HO_4.1).2.1)
       rintro e w36 ⟨rfl, hb⟩
       refine ⟨_, rfl, ?_⟩
       replace HO_4 := zM (Kd.R_below (zR HO_4.1) hb)
       replace HO_7 := zM (Kd.S_below (zS HO_7.1) hb)
       replace HB := zM (below_step zB1 hb)
       refine hK.out _ _ zCs fun hHeld => ?_
       clear hK K
       refine zNo ?_
       refine zPu 17 ?_
       refine zPu 18 ?_
       refine zPu 19 ?_
       refine zPu 20 ?_
       refine zPu 21 ?_
       refine zPu 22 ?_
       refine zPu 23 ?_
       refine zOn 24 (some 79) fun K hK => ?_
       refine zGs Try.func16 #[.int .i64 t720, .slice (some ad734) t721.length co16, .int .i64 x9_2, .int .i64 x8_1] ?_
       with_reducible refine (impl_Knows.calls k2 t720 _ _ t721 x9_2 x8_1 true _ ?side1 ?side2 A33.1).mono ?_
       (case side1 => exact zC (Kd.R_reads' HO_4.1).2.2)
       (case side2 => exact (Kd.R_reads' HO_4.1).2.1)
       rintro e w37 ⟨rfl, hb⟩
       refine ⟨_, rfl, ?_⟩
       replace HO_4 := zM (Kd.R_below (zR HO_4.1) hb)
       replace HO_7 := zM (Kd.S_below (zS HO_7.1) hb)
       replace HB := zM (below_step zB1 hb)
       refine hK.out _ _ zCs fun hHeld => ?_
       clear hK K
       refine zNo ?_
       refine zPu 25 ?_
       refine zPu 26 ?_
       refine zPn 27 ?_
       refine zPn 28 ?_
       refine zPn 29 ?_
       refine zPn 30 ?_
       refine zPn 31 ?_
       refine zPu 32 ?_
       refine done_ (done_of HT_.1 (by kernel_rfl)) ?_
       try go_wp2
       go_meet
       case rel => exact ⟨_, (true), zJJ, H', ⟨by have := HK1.1; have := HK2.1; first | omega | exact Nat.le_refl _⟩, ⟨zR HO_4.1⟩, ⟨zS HO_7.1⟩, ⟨zB1⟩⟩
      replace c34 := Bool.eq_false_iff.mpr c34
      subst c34
      rw [if_neg zF] at H
      replace H := zO H
      obtain ⟨t738, A38, H⟩ := H
      have H' := zM H
      clear H
      try go_wp2
      replace HO_4 := zM (Kd.R_drew HO_4.1)
      replace HO_7 := zM (Kd.S_drew HO_7.1)
      replace HB := zM (below_drew1 HB.1)
      have p734 : 0 ≤ (x8_1 : Int) := zA
      have q734 : x8_1 < (t721.length : Int) := zA
      obtain ⟨ad734, e734, hx734_0, hx734_1, hx734_2, hx734_3, hx734_4⟩ := at_T31 (Kd.R_reads' HO_4.1).2.2 x8_1 p734 q734
      cases e734
      replace p734 := eq_true p734
      replace q734 := eq_true q734
      have p735 : 0 ≤ (x9_2 : Int) := zA
      have q735 : x9_2 < (t721.length : Int) := zA
      obtain ⟨ad735, e735, hx735_0, hx735_1, hx735_2, hx735_3, hx735_4⟩ := at_T31 (Kd.R_reads' HO_4.1).2.2 x9_2 p735 q735
      obtain rfl : ad734 = ad735 := (by injection e735)
      replace p735 := eq_true p735
      replace q735 := eq_true q735
      refine start_ (n := 33) (S := fun w' => w'.cell? (ad734.add ((x8_1).toNat * 5)) = some (.int .i64 ((rd_T31 t721 x8_1).f0)) ∧ w'.cell? ⟨(ad734.add ((x8_1).toNat * 5)).block, (ad734.add ((x8_1).toNat * 5)).off + 1, none⟩ = some (.int .i64 ((rd_T31 t721 x8_1).f1)) ∧ w'.cell? ⟨(ad734.add ((x8_1).toNat * 5)).block, (ad734.add ((x8_1).toNat * 5)).off + 2, none⟩ = some (.int .i64 ((rd_T31 t721 x8_1).f2)) ∧ w'.cell? ⟨(ad734.add ((x8_1).toNat * 5)).block, (ad734.add ((x8_1).toNat * 5)).off + 3, none⟩ = some (.int .i64 ((rd_T31 t721 x8_1).f3)) ∧ w'.cell? ⟨(ad734.add ((x8_1).toNat * 5)).block, (ad734.add ((x8_1).toNat * 5)).off + 4, none⟩ = some (.int .i64 ((rd_T31 t721 x8_1).f4)) ∧ w'.cell? (ad734.add ((x9_2).toNat * 5)) = some (.int .i64 ((rd_T31 t721 x9_2).f0)) ∧ w'.cell? ⟨(ad734.add ((x9_2).toNat * 5)).block, (ad734.add ((x9_2).toNat * 5)).off + 1, none⟩ = some (.int .i64 ((rd_T31 t721 x9_2).f1)) ∧ w'.cell? ⟨(ad734.add ((x9_2).toNat * 5)).block, (ad734.add ((x9_2).toNat * 5)).off + 2, none⟩ = some (.int .i64 ((rd_T31 t721 x9_2).f2)) ∧ w'.cell? ⟨(ad734.add ((x9_2).toNat * 5)).block, (ad734.add ((x9_2).toNat * 5)).off + 3, none⟩ = some (.int .i64 ((rd_T31 t721 x9_2).f3)) ∧ w'.cell? ⟨(ad734.add ((x9_2).toNat * 5)).block, (ad734.add ((x9_2).toNat * 5)).off + 4, none⟩ = some (.int .i64 ((rd_T31 t721 x9_2).f4))) (ds := []) zq14_0 (by kernel_rfl) rfl rfl ⟨hx734_0, hx734_1, hx734_2, hx734_3, hx734_4, hx735_0, hx735_1, hx735_2, hx735_3, hx735_4⟩ (fun hHeld => ?_); refine with_tabW laws_FnKnows.tab15 laws_FnKnows.bits15 (fun HT_ HW_ => ?_)
      generalize wr.drew = w39 at HO_4 HO_7 HB hx734_0 hx734_1 hx734_2 hx734_3 hx734_4 hx735_0 hx735_1 hx735_2 hx735_3 hx735_4 hHeld ⊢
      refine zPu 0 ?_
      refine zPu 1 ?_
      refine zPu 2 ?_
      refine zPu 3 ?_
      refine zPu 5 ?_
      refine zPu 6 ?_
      refine zPu 7 ?_
      refine zPu 8 ?_
      refine zTk10 4 hHeld ?_
      refine zTk10 9 hHeld ?_
      refine zPu 10 ?_
      refine zPu 11 ?_
      refine zPu 12 ?_
      refine zPu 13 ?_
      refine zPu 14 ?_
      refine zPu 15 ?_
      refine zOn 16 (some 71) fun K hK => ?_
      refine zGs Try.func16 #[.int .i64 t720, .slice (some ad734) t721.length co16, .int .i64 x8_1, .int .i64 x9_2] ?_
      with_reducible refine (impl_Knows.calls k2 t720 _ _ t721 x8_1 x9_2 true _ ?side1 ?side2 A31.1).mono ?_
      (case side1 => exact zC (Kd.R_reads' HO_4.1).2.2)
      (case side2 => exact (Kd.R_reads' HO_4.1).2.1)
      rintro e w40 ⟨rfl, hb⟩
      refine ⟨_, rfl, ?_⟩
      replace HO_4 := zM (Kd.R_below (zR HO_4.1) hb)
      replace HO_7 := zM (Kd.S_below (zS HO_7.1) hb)
      replace HB := zM (below_step zB1 hb)
      refine hK.out _ _ zCs fun hHeld => ?_
      clear hK K
      refine zNo ?_
      refine zPu 17 ?_
      refine zPu 18 ?_
      refine zPu 19 ?_
      refine zPu 20 ?_
      refine zPu 21 ?_
      refine zPu 22 ?_
      refine zPu 23 ?_
      refine zOn 24 (some 79) fun K hK => ?_
      refine zGs Try.func16 #[.int .i64 t720, .slice (some ad734) t721.length co16, .int .i64 x9_2, .int .i64 x8_1] ?_
      with_reducible refine (impl_Knows.calls k2 t720 _ _ t721 x9_2 x8_1 false _ ?side1 ?side2 A33.1).mono ?_
      (case side1 => exact zC (Kd.R_reads' HO_4.1).2.2)
      (case side2 => exact (Kd.R_reads' HO_4.1).2.1)
      rintro e w41 ⟨rfl, hb⟩
      refine ⟨_, rfl, ?_⟩
      replace HO_4 := zM (Kd.R_below (zR HO_4.1) hb)
      replace HO_7 := zM (Kd.S_below (zS HO_7.1) hb)
      replace HB := zM (below_step zB1 hb)
      refine hK.out _ _ zCs fun hHeld => ?_
      clear hK K
      refine zNo ?_
      refine zPu 25 ?_
      refine zPu 26 ?_
      refine zPu 27 ?_
      refine zPu 28 ?_
      refine zPu 29 ?_
      refine zPu 30 ?_
      refine zOn 31 (some 86) fun K hK => ?_
      refine zGs Try.func16 #[.int .i64 t720, .slice (some ad734) t721.length co16, .int .i64 x8_1, .int .i64 x8_1] ?_
      with_reducible refine (impl_Knows.calls k2 t720 _ _ t721 x8_1 x8_1 t738 _ ?side1 ?side2 A38.1).mono ?_
      (case side1 => exact zC (Kd.R_reads' HO_4.1).2.2)
      (case side2 => exact (Kd.R_reads' HO_4.1).2.1)
      rintro e w42 ⟨rfl, hb⟩
      refine ⟨_, rfl, ?_⟩
      replace HO_4 := zM (Kd.R_below (zR HO_4.1) hb)
      replace HO_7 := zM (Kd.S_below (zS HO_7.1) hb)
      replace HB := zM (below_step zB1 hb)
      refine hK.out _ _ zCs fun hHeld => ?_
      clear hK K
      refine zNo ?_
      refine zPu 32 ?_
      refine done_ (done_of HT_.1 (by kernel_rfl)) ?_
      try go_wp2
      go_meet
      case rel => exact ⟨_, (t738), zJJ, H', ⟨by have := HK1.1; have := HK2.1; first | omega | exact Nat.le_refl _⟩, ⟨zR HO_4.1⟩, ⟨zS HO_7.1⟩, ⟨zB1⟩⟩
     case rest =>
      clear HC25
      try clear c1
      try clear c2
      try clear p2
      try clear c4
      try clear p7
      try clear q7
      try clear hx7
      try clear c16
      try clear c26
      try clear c27
      try clear c28
      try clear c29
      try clear c46
      try clear hx734_0
      try clear hx734_1
      try clear hx734_2
      try clear hx734_3
      try clear hx734_4
      try clear hx735_0
      try clear hx735_1
      try clear hx735_2
      try clear hx735_3
      try clear hx735_4
      try clear p734
      try clear p735
      try clear q734
      try clear q735
      obtain ⟨kq, x87_24, rfl, HA, HJ24, HO_4, HO_7, HB⟩ := hcut
      cases kq with
      | zero => exact absurd HA.1 (by simp [laws_FnKnows.j2])
      | succ kj24 =>
       have H := HA.1
       clear HA
       simp only [laws_FnKnows.j2] at H
       by_cases c53 : x87_24 = true
       ·subst c53
        rw [if_pos rfl] at H
        obtain rfl := Option.some.inj H
        go_wp2
        go_ret
        exact ⟨zE, zB1⟩
       replace c53 := Bool.eq_false_iff.mpr c53
       subst c53
       rw [if_neg zF] at H
       have H' := zM H
       clear H
       go_wp2
       go_loopg [10] kj24 (fun kq v10 w' => ∃ (x10_4 : Int), v10 = .int .i64 x10_4 ∧ Aside0 (laws_FnKnows.l2 kq t720 t721 t728 x8_1 x9_2 x10_4 = some r) ∧ Aside0 (kq ≤ kj24) ∧ Aside0 (Kd.R k31 31 w' w.heap.size (fun _ => True) (.slice Ao16 t721.length co16) t721) ∧ Aside0 (Kd.S (Kd.slice 3 (Kd.int .i64)) 29 w' w.heap.size (fun _ => True) (.slice Ao20 t728.length co20) t728) ∧ Aside0 (Below w.heap.size w w'))
       case atStart => exact ⟨(wrap64 (x9_2 + 1)), zJJ, H', ⟨Nat.le_refl _⟩, ⟨zR HO_4.1⟩, ⟨zS HO_7.1⟩, ⟨zB1⟩⟩
       case round =>
        clear H'
        try clear c1
        try clear c2
        try clear p2
        try clear c4
        try clear c5
        try clear p6
        try clear p7
        try clear q7
        try clear hx7
        try clear c16
        try clear c26
        try clear c27
        try clear c28
        try clear c29
        try clear c46
        try clear c53
        try clear hx734_0
        try clear hx734_1
        try clear hx734_2
        try clear hx734_3
        try clear hx734_4
        try clear hx735_0
        try clear hx735_1
        try clear hx735_2
        try clear hx735_3
        try clear hx735_4
        try clear p2
        try clear p7
        try clear p734
        try clear p735
        try clear q7
        try clear q734
        try clear q735
        obtain ⟨x10_4, rfl, HA, HK4, HO_4, HO_7, HB⟩ := hrel
        cases gk with
        | zero => exact absurd HA.1 (by simp [laws_FnKnows.l2])
        | succ k4 =>
         have H := HA.1
         clear HA
         simp only [laws_FnKnows.l2] at H
         have HC54 := zM H
         clear H
         go_upto_region 18 with (fail)
         go_cut [99] (fun v99 wc => ∃ (kq : Nat) (x99_53 : Bool), v99 = .bool x99_53 ∧ Aside0 (laws_FnKnows.j4 kq t720 t721 t728 x8_1 x9_2 x10_4 x99_53 = some r) ∧ Aside0 (kq ≤ k4) ∧ Aside0 (Kd.R k31 31 wc w.heap.size (fun _ => True) (.slice Ao16 t721.length co16) t721) ∧ Aside0 (Kd.S (Kd.slice 3 (Kd.int .i64)) 29 wc w.heap.size (fun _ => True) (.slice Ao20 t728.length co20) t728) ∧ Aside0 (Below w.heap.size w wc))
         case first =>
          have H := HC54.1
          clear HC54
          by_cases c55 : x10_4 < (t728.length : Int)
          rotate_left
          ·rw [if_neg c55] at H
           have c55b0 := decide_eq_false c55
           clear c55
           (first | rw [c55b0] | (simp only [i64_w, i32_w]; rw [c55b0]) | skip)
           have H' := zM H
           clear H
           go_wp2
           go_meet
           case rel => exact ⟨_, (false), zJJ, H', ⟨by have := HK1.1; have := HK2.1; have := HJ24.1; have := HK4.1; first | omega | exact Nat.le_refl _⟩, ⟨zR HO_4.1⟩, ⟨zS HO_7.1⟩, ⟨zB1⟩⟩
          rw [if_pos c55] at H
          have c55b0 := decide_eq_true c55
          clear c55
          (first | rw [c55b0] | (simp only [i64_w, i32_w]; rw [c55b0]) | skip)
          have H' := zM H
          clear H
          go_wp2
          go_meet
          case rel => exact ⟨_, (decide (x10_4 < (wrap64 (x9_2 + 4)))), zJJ, H', ⟨by have := HK1.1; have := HK2.1; have := HJ24.1; have := HK4.1; first | omega | exact Nat.le_refl _⟩, ⟨zR HO_4.1⟩, ⟨zS HO_7.1⟩, ⟨zB1⟩⟩
         case rest =>
          clear HC54
          try clear c1
          try clear c2
          try clear p2
          try clear c4
          try clear c5
          try clear p6
          try clear p7
          try clear q7
          try clear hx7
          try clear c16
          try clear c26
          try clear c27
          try clear c28
          try clear c29
          try clear c46
          try clear c53
          try clear c55
          try clear c55b0
          try clear hx734_0
          try clear hx734_1
          try clear hx734_2
          try clear hx734_3
          try clear hx734_4
          try clear hx735_0
          try clear hx735_1
          try clear hx735_2
          try clear hx735_3
          try clear hx735_4
          try clear p2
          try clear p6
          try clear p7
          try clear p734
          try clear p735
          try clear q7
          try clear q734
          try clear q735
          obtain ⟨kq, x99_53, rfl, HA, HJ53, HO_4, HO_7, HB⟩ := hcut
          cases kq with
          | zero => exact absurd HA.1 (by simp [laws_FnKnows.j4])
          | succ kj53 =>
           have H := HA.1
           clear HA
           simp only [laws_FnKnows.j4] at H
           by_cases c56 : x99_53 = true
           rotate_left
           ·replace c56 := Bool.eq_false_iff.mpr c56
            subst c56
            rw [if_neg zF] at H
            have H' := zM H
            clear H
            go_wp2
            go_roundg kj53
            case measure => have := HK1.1; have := HK2.1; have := HJ24.1; have := HK4.1; have := HJ53.1; omega
            case rel => exact ⟨(wrap64 (x9_2 + 1)), zJJ, H', ⟨by have := HK1.1; have := HK2.1; have := HJ24.1; have := HK4.1; have := HJ53.1; omega⟩, ⟨zR HO_4.1⟩, ⟨zS HO_7.1⟩, ⟨zB1⟩⟩
           subst c56
           rw [if_pos rfl] at H
           replace H := zO H
           obtain ⟨t741, A57, H⟩ := H
           by_cases c58 : t741 = true
           rotate_left
           ·replace c58 := Bool.eq_false_iff.mpr c58
            subst c58
            rw [if_neg zF] at H
            have H' := zM H
            clear H
            go_wp2_with (first | ((with_reducible refine zG Try.func16 106 #[.int .i64 t720, .slice Ao16 t721.length co16, .int .i64 x8_1, .int .i64 x9_2] ?_); (with_reducible refine (impl_Knows.calls kj53 t720 _ _ t721 x8_1 x9_2 false _ ?side1 ?side2 A57.1).mono ?_); (case side1 => exact zC (Kd.R_reads' HO_4.1).2.2); (case side2 => exact (Kd.R_reads' HO_4.1).2.1); rintro e w71 ⟨rfl, hb⟩; refine ⟨_, rfl, ?_⟩; replace HO_4 := zM (Kd.R_below (zR HO_4.1) hb); replace HO_7 := zM (Kd.S_below (zS HO_7.1) hb); replace HB := zM (below_step zB1 hb); clear hb))
            go_roundg kj53
            case measure => have := HK1.1; have := HK2.1; have := HJ24.1; have := HK4.1; have := HJ53.1; omega
            case rel => exact ⟨(wrap64 (x10_4 + 1)), zJJ, H', ⟨by have := HK1.1; have := HK2.1; have := HJ24.1; have := HK4.1; have := HJ53.1; omega⟩, ⟨zR HO_4.1⟩, ⟨zS HO_7.1⟩, ⟨zB1⟩⟩
           subst c58
           rw [if_pos rfl] at H
           replace H := zO H
           obtain ⟨t742, A59, H⟩ := H
           by_cases c60 : t742 = true
           rotate_left
           ·replace c60 := Bool.eq_false_iff.mpr c60
            subst c60
            rw [if_neg zF] at H
            have H' := zM H
            clear H
            go_wp2_with (first | ((with_reducible refine zG Try.func16 106 #[.int .i64 t720, .slice Ao16 t721.length co16, .int .i64 x8_1, .int .i64 x9_2] ?_); (with_reducible refine (impl_Knows.calls kj53 t720 _ _ t721 x8_1 x9_2 true _ ?side1 ?side2 A57.1).mono ?_); (case side1 => exact zC (Kd.R_reads' HO_4.1).2.2); (case side2 => exact (Kd.R_reads' HO_4.1).2.1); rintro e w69 ⟨rfl, hb⟩; refine ⟨_, rfl, ?_⟩; replace HO_4 := zM (Kd.R_below (zR HO_4.1) hb); replace HO_7 := zM (Kd.S_below (zS HO_7.1) hb); replace HB := zM (below_step zB1 hb); clear hb) | (go_at_call 16; (with_reducible refine (impl_Knows.calls kj53 t720 _ _ t721 x9_2 x10_4 false _ ?side1 ?side2 A59.1).mono ?_); (case side1 => exact zC (Kd.R_reads' HO_4.1).2.2); (case side2 => exact (Kd.R_reads' HO_4.1).2.1); rintro e w70 ⟨rfl, hb⟩; replace HO_4 := zM (Kd.R_below (zR HO_4.1) hb); replace HO_7 := zM (Kd.S_below (zS HO_7.1) hb); replace HB := zM (below_step zB1 hb); clear hb))
            go_roundg kj53
            case measure => have := HK1.1; have := HK2.1; have := HJ24.1; have := HK4.1; have := HJ53.1; omega
            case rel => exact ⟨(wrap64 (x10_4 + 1)), zJJ, H', ⟨by have := HK1.1; have := HK2.1; have := HJ24.1; have := HK4.1; have := HJ53.1; omega⟩, ⟨zR HO_4.1⟩, ⟨zS HO_7.1⟩, ⟨zB1⟩⟩
           subst c60
           rw [if_pos rfl] at H
           replace H := zO H
           obtain ⟨t743, A61, H⟩ := H
           by_cases c62 : t743 = true
           rotate_left
           ·replace c62 := Bool.eq_false_iff.mpr c62
            subst c62
            rw [if_neg zF] at H
            obtain rfl := Option.some.inj H
            go_wp2_with (first | ((with_reducible refine zG Try.func16 106 #[.int .i64 t720, .slice Ao16 t721.length co16, .int .i64 x8_1, .int .i64 x9_2] ?_); (with_reducible refine (impl_Knows.calls kj53 t720 _ _ t721 x8_1 x9_2 true _ ?side1 ?side2 A57.1).mono ?_); (case side1 => exact zC (Kd.R_reads' HO_4.1).2.2); (case side2 => exact (Kd.R_reads' HO_4.1).2.1); rintro e w66 ⟨rfl, hb⟩; refine ⟨_, rfl, ?_⟩; replace HO_4 := zM (Kd.R_below (zR HO_4.1) hb); replace HO_7 := zM (Kd.S_below (zS HO_7.1) hb); replace HB := zM (below_step zB1 hb); clear hb) | (go_at_call 16; (with_reducible refine (impl_Knows.calls kj53 t720 _ _ t721 x9_2 x10_4 true _ ?side1 ?side2 A59.1).mono ?_); (case side1 => exact zC (Kd.R_reads' HO_4.1).2.2); (case side2 => exact (Kd.R_reads' HO_4.1).2.1); rintro e w67 ⟨rfl, hb⟩; replace HO_4 := zM (Kd.R_below (zR HO_4.1) hb); replace HO_7 := zM (Kd.S_below (zS HO_7.1) hb); replace HB := zM (below_step zB1 hb); clear hb) | (go_at_call 16; (with_reducible refine (impl_Knows.calls kj53 t720 _ _ t721 x8_1 x10_4 false _ ?side1 ?side2 A61.1).mono ?_); (case side1 => exact zC (Kd.R_reads' HO_4.1).2.2); (case side2 => exact (Kd.R_reads' HO_4.1).2.1); rintro e w68 ⟨rfl, hb⟩; replace HO_4 := zM (Kd.R_below (zR HO_4.1) hb); replace HO_7 := zM (Kd.S_below (zS HO_7.1) hb); replace HB := zM (below_step zB1 hb); clear hb))
            go_ret
            exact ⟨zE, zB1⟩
           subst c62
           rw [if_pos rfl] at H
           have H' := zM H
           clear H
           go_wp2_with (first | ((with_reducible refine zG Try.func16 106 #[.int .i64 t720, .slice Ao16 t721.length co16, .int .i64 x8_1, .int .i64 x9_2] ?_); (with_reducible refine (impl_Knows.calls kj53 t720 _ _ t721 x8_1 x9_2 true _ ?side1 ?side2 A57.1).mono ?_); (case side1 => exact zC (Kd.R_reads' HO_4.1).2.2); (case side2 => exact (Kd.R_reads' HO_4.1).2.1); rintro e w63 ⟨rfl, hb⟩; refine ⟨_, rfl, ?_⟩; replace HO_4 := zM (Kd.R_below (zR HO_4.1) hb); replace HO_7 := zM (Kd.S_below (zS HO_7.1) hb); replace HB := zM (below_step zB1 hb); clear hb) | (go_at_call 16; (with_reducible refine (impl_Knows.calls kj53 t720 _ _ t721 x9_2 x10_4 true _ ?side1 ?side2 A59.1).mono ?_); (case side1 => exact zC (Kd.R_reads' HO_4.1).2.2); (case side2 => exact (Kd.R_reads' HO_4.1).2.1); rintro e w64 ⟨rfl, hb⟩; replace HO_4 := zM (Kd.R_below (zR HO_4.1) hb); replace HO_7 := zM (Kd.S_below (zS HO_7.1) hb); replace HB := zM (below_step zB1 hb); clear hb) | (go_at_call 16; (with_reducible refine (impl_Knows.calls kj53 t720 _ _ t721 x8_1 x10_4 true _ ?side1 ?side2 A61.1).mono ?_); (case side1 => exact zC (Kd.R_reads' HO_4.1).2.2); (case side2 => exact (Kd.R_reads' HO_4.1).2.1); rintro e w65 ⟨rfl, hb⟩; replace HO_4 := zM (Kd.R_below (zR HO_4.1) hb); replace HO_7 := zM (Kd.S_below (zS HO_7.1) hb); replace HB := zM (below_step zB1 hb); clear hb))
           go_roundg kj53
           case measure => have := HK1.1; have := HK2.1; have := HJ24.1; have := HK4.1; have := HJ53.1; omega
           case rel => exact ⟨(wrap64 (x10_4 + 1)), zJJ, H', ⟨by have := HK1.1; have := HK2.1; have := HJ24.1; have := HK4.1; have := HJ53.1; omega⟩, ⟨zR HO_4.1⟩, ⟨zS HO_7.1⟩, ⟨zB1⟩⟩

/-- THE ONE PURE STATEMENT of laws_FnKnows: yours. -/
def laws_FnKnows.Pure : Prop := ∀ (l0 : List Int), l0.length ≤ maxLen → l0.length * 1 ≤ 140737488351232 → (∀ x ∈ l0, (Lit.int .u8 x).wf = true) → ∃ k, laws_FnKnows.f k l0 = some true
theorem laws_FnKnows.walk (P : laws_FnKnows.Pure) (a0 : Option Addr) (len0 cap0 : Nat) (z0 : List Int) (w : World) (w0 : (a0 = none ∧ len0 = 0 ∧ cap0 = 0 ∧ z0 = []) ∨ ∃ x, a0 = some x ∧ len0 ≤ cap0 ∧ cap0 ≤ maxLen ∧ z0.length = cap0 ∧ (∀ i, i < z0.length → w.cell? (x.add i) = some (.int .u8 (z0.getD i 0))) ∧ ∀ n ∈ z0, (Lit.int .u8 n).wf = true) (y0 : len0 * 1 ≤ 140737488351232) :
  Calls Try.prog 5 #[.slice a0 len0 cap0] w fun e w' => e = .returned (.bool true) ∧ Below w.heap.size w w' := by
 obtain ⟨l0, rfl, hr0, hm0, hw0, hc0⟩ := ReadsInt.ofRowC w0
 obtain ⟨k, h⟩ := P l0 hm0 y0 hw0
 refine (laws_FnKnows.calls k _ _ l0 true w (Kd.C_of_reads (d := (0 : Int)) (h1 := fun _ => rfl) hr0) hc0 h).mono ?_
 rintro e w' ⟨rfl, hd⟩
 exact ⟨rfl, hd⟩

end Go.Proofs.Ytgbjengnkbomoaa.PFnKnows
