-- made by wip/tools/myprint.py out of the seat's translation
import Derived.Test.YtgbjengnkbomoaaPFnRacesx0
import Derived.Test.YtgbjengnkbomoaaPFnRacesx1
import Derived.Test.YtgbjengnkbomoaaPFnRacesx2
import Derived.Test.YtgbjengnkbomoaaPFnRacesx4
import Derived.Test.YtgbjengnkbomoaaPFnRacesx11
import Derived.Test.YtgbjengnkbomoaaPFnRacesx12
import Derived.Test.YtgbjengnkbomoaaPFnRacesx16
namespace Go.Proofs.Ytgbjengnkbomoaa.PFnRaces
open Go.RowKit Go.Proofs.YtgbjengnkbomoaaW.PrintWords Go.Proofs.YtgbjengnkbomoaaW.PrintLast Go.Proofs.YtgbjengnkbomoaaW.PrintMore
attribute [local go_sem] max2_int min2_int max_two min_two max_three min_three max_four min_four   -- for this text's walks alone
set_option linter.unusedVariables false
set_option linter.unusedSimpArgs false
theorem zCu {p : Prop} (h : p := by (have hH_ := hHeld; repeat (have := And.left hH_; replace hH_ := And.right hH_)); (repeat' apply And.intro) <;> (repeat (first | (with_reducible assumption) | (refine (cell_far (by with_reducible first | exact Aside0.out (by assumption) | (rw [add_block]; exact Aside0.out (by assumption)) | (show (Addr.add _ _).block ≠ _; rw [add_block]; exact Aside0.out (by assumption)) | (dsimp only; exact Aside0.out (by assumption))) _).trans ?_)))) : p := h
set_option maxHeartbeats 16000000
set_option maxRecDepth 100000
abbrev zq17_0 : Array Bool := #[false, false, false, false, false, false, false, false, false, false, false, false, false, false, false, false, false, false, false, false]
abbrev zq17_17 : Array Bool := #[true, true, true, true, true, true, true, true, true, true, true, true, true, true, true, true, true, true, false, false]
abbrev zq17_18 : Array Bool := #[true, true, true, true, true, true, true, true, true, true, true, true, true, true, true, true, true, false, false, false]
abbrev zq17_19 : Array Bool := #[true, true, true, true, true, true, true, true, true, true, true, true, true, true, true, true, false, true, false, false]
abbrev zq17_22 : Array Bool := #[false, false, false, false, false, false, false, false, false, false, false, false, false, false, false, false, false, false, false, false, false, false, false, false, false, false, false, false, false, false, false, false, false, false, false, false, false, false, false, false, false, false, false, false, false, false, false, false]

attribute [local go_sem high] eqA44
/-! ### laws_FnRaces: function 6 -/
mutual
def laws_FnRaces.l0 : Nat → Int → List (S31) → List (S44) → List (S44) → Int → Option (Bool)
 | 0, _, _, _, _, _ => none
 | k + 1, x3, x4, x5, x6, x7 => if x7 < (x5.length : Int) then (if 0 ≤ x7 then (if 0 ≤ ((rd_T44 x5 x7).f0) then (if ((rd_T44 x5 x7).f0) < (x4.length : Int) then (if 0 ≤ ((rd_T44 x5 x7).f1) then (if ((rd_T44 x5 x7).f1) < (x4.length : Int) then (if x7 < (x6.length : Int) then (if (!(((rd_T44 x5 x7).f0) == ((rd_T44 x6 x7).f0)) || (!(((rd_T44 x5 x7).f1) == ((rd_T44 x6 x7).f1)))) = true then (some false) else (if ((rd_T31 x4 ((rd_T44 x5 x7).f0)).f2) = ((rd_T31 x4 ((rd_T44 x5 x7).f1)).f2) then (if ((rd_T31 x4 ((rd_T44 x5 x7).f0)).f0) = ((rd_T31 x4 ((rd_T44 x5 x7).f1)).f0) then (some false) else ((impl_Knows.f k x3 x4 ((rd_T44 x5 x7).f0) ((rd_T44 x5 x7).f1)).bind fun t784 => (if t784 = true then (some false) else (if ((rd_T31 x4 ((rd_T44 x5 x7).f0)).f4) < 0 then (if ((rd_T31 x4 ((rd_T44 x5 x7).f1)).f4) < 0 then (some false) else (laws_FnRaces.l0 k x3 x4 x5 x6 (wrap64 (x7 + 1)))) else (laws_FnRaces.l0 k x3 x4 x5 x6 (wrap64 (x7 + 1))))))) else (some false))) else (none)) else (none)) else (none)) else (none)) else (none)) else (none)) else (laws_FnRaces.l1 k x3 x4 (([] : List (S31))) 0)
def laws_FnRaces.l1 : Nat → Int → List (S31) → List (S31) → Int → Option (Bool)
 | 0, _, _, _, _ => none
 | k + 1, x3, x4, x10, x11 => if x11 < (x4.length : Int) then (if 0 ≤ x11 then (if ((rd_T31 x4 x11).f3) ≥ 0 then (if ((rd_T31 x4 x11).f4) ≥ 0 then (if x10.length < 3518437208883 then (laws_FnRaces.l1 k x3 x4 (x10 ++ [(⟨(rd_T31 x4 x11).f0, (rd_T31 x4 x11).f1, (rd_T31 x4 x11).f2, (rd_T31 x4 x11).f3, (rd_T31 x4 x11).f4⟩ : S31)]) (wrap64 (x11 + 1))) else (none)) else (laws_FnRaces.l1 k x3 x4 x10 (wrap64 (x11 + 1)))) else (laws_FnRaces.l1 k x3 x4 x10 (wrap64 (x11 + 1)))) else (none)) else ((impl_Races.f k x3 x10).bind fun t794 => (some ((t794.length : Int) == 0)))
end
def laws_FnRaces.f (k : Nat) (l0 : List Int) : Option (Bool) := (laws_big.f l0).bind fun t763 => (if t763 = true then (some true) else ((spec_DrawRaces.f k l0).bind fun bt764 => ((impl_Races.f k bt764.1 bt764.2).bind fun t768 => ((spec_Races.f k bt764.1 bt764.2).bind fun t771 => (if (t768.length : Int) = (t771.length : Int) then (laws_FnRaces.l0 k bt764.1 bt764.2 t768 t771 0) else (some false))))))
theorem laws_FnRaces.mono_l : ∀ k, (∀ y0 y1 y2 y3 y4, LeO (laws_FnRaces.l0 k y0 y1 y2 y3 y4) (laws_FnRaces.l0 (k + 1) y0 y1 y2 y3 y4)) ∧ (∀ y0 y1 y2 y3, LeO (laws_FnRaces.l1 k y0 y1 y2 y3) (laws_FnRaces.l1 (k + 1) y0 y1 y2 y3))
 | 0 => ⟨fun _ _ _ _ _ r h => by simp [laws_FnRaces.l0] at h, fun _ _ _ _ r h => by simp [laws_FnRaces.l1] at h⟩
 | k + 1 => by
  obtain ⟨ih0, ih1⟩ := laws_FnRaces.mono_l k
  refine ⟨?_, ?_⟩
  ·intros
   unfold laws_FnRaces.l0
   have mo0 := @impl_Knows.mono
   have mo1 := @impl_Races.mono
   have mo2 := @spec_DrawRaces.mono
   have mo3 := @spec_Races.mono
   exact zL
  ·intros
   unfold laws_FnRaces.l1
   have mo0 := @impl_Knows.mono
   have mo1 := @impl_Races.mono
   have mo2 := @spec_DrawRaces.mono
   have mo3 := @spec_Races.mono
   exact zL
theorem laws_FnRaces.mono : ∀ a0 k, LeO (laws_FnRaces.f k a0) (laws_FnRaces.f (k + 1) a0) := by
 intro a0 k
 obtain ⟨ih0, ih1⟩ := laws_FnRaces.mono_l k
 unfold laws_FnRaces.f
 have mo0 := @impl_Knows.mono
 have mo1 := @impl_Races.mono
 have mo2 := @spec_DrawRaces.mono
 have mo3 := @spec_Races.mono
 exact zL
def laws_FnRaces.T11 : Bool × List (List Nat × List Nat) := (true, [([], []), ([], []), ([], []), ([1, 2], [1, 2]), ([3], [3]), ([4], [4]), ([0, 5], [0, 5]), ([6], [6]), ([], []), ([], []), ([], []), ([9, 10], [9, 10]), ([11], [11]), ([12], [12]), ([8, 13], [8, 13]), ([14], [14]), ([], []), ([], []), ([16, 7, 0, 1, 2, 3, 4, 5, 6, 7, 16, 17], [7, 16]), ([17, 15, 18, 0, 1, 2, 3, 4, 5, 6, 7, 8, 9, 10, 11, 12, 13, 14, 15, 16, 17, 18], [15, 17])])
def laws_FnRaces.B11 : List Nat := [0, 0, 0, 6, 14, 30, 63, 127, 0, 0, 0, 1536, 3584, 7680, 16128, 32512, 0, 0, 196863, 524287]
theorem laws_FnRaces.tab11 : rtab .any (opsOf Try.f6 11) = laws_FnRaces.T11 := by kernel_rfl
theorem laws_FnRaces.bits11 : waitsOk laws_FnRaces.T11.2 laws_FnRaces.B11 = true := by kernel_rfl
def laws_FnRaces.T12 : Bool × List (List Nat × List Nat) := (true, [([], []), ([], []), ([0, 1], [0, 1]), ([2], [2]), ([], []), ([], []), ([4, 5], [4, 5]), ([6], [6]), ([3, 7], [3, 7]), ([8], [8]), ([9], [9]), ([10, 9], [9, 10]), ([9], [9]), ([12, 9], [9, 12]), ([11, 13, 9], [9, 11, 13]), ([9, 14], [9, 14]), ([15, 9], [15]), ([16], [16]), ([17, 16], [16, 17]), ([16], [16]), ([19, 16], [16, 19]), ([18, 20, 16], [16, 18, 20]), ([16, 21], [16, 21]), ([22, 16], [22]), ([23], [23]), ([23], [23]), ([23], [23]), ([23], [23]), ([26, 27, 23], [23, 26, 27]), ([28, 23], [23, 28]), ([29, 23], [23, 29]), ([23], [23]), ([23], [23]), ([31, 32, 23], [23, 31, 32]), ([33, 23], [23, 33]), ([34, 23], [23, 34]), ([24, 25, 30, 35, 23, 23], [23, 24, 25, 30, 35]), ([23, 36], [23, 36]), ([37, 36], [37]), ([38], [38]), ([39, 38], [38, 39]), ([40, 38], [38, 40]), ([41, 38, 38], [38, 41]), ([42], [42]), ([43, 42], [42, 43]), ([44, 42], [42, 44]), ([42, 45, 38], [38, 42, 45]), ([38, 46], [38, 46])])
def laws_FnRaces.B12 : List Nat := [0, 0, 3, 7, 0, 0, 48, 112, 255, 511, 1023, 2047, 1023, 5119, 16383, 32767, 65535, 131071, 262143, 131071, 655359, 2097151, 4194303, 8388607, 16777215, 16777215, 16777215, 16777215, 218103807, 486539263, 1023410175, 16777215, 16777215, 6459228159, 15049162751, 32229031935, 68719476735, 137438953471, 274877906943, 549755813887, 1099511627775, 2199023255551, 4398046511103, 8796093022207, 17592186044415, 35184372088831, 70368744177663, 140737488355327]
theorem laws_FnRaces.tab12 : rtab .any (opsOf Try.f6 12) = laws_FnRaces.T12 := by kernel_rfl
theorem laws_FnRaces.bits12 : waitsOk laws_FnRaces.T12.2 laws_FnRaces.B12 = true := by kernel_rfl
abbrev zS1_17 := fun (ad774 : Addr) (x7_1 : Int) t768 (ad775 : Addr) t765 (w' : World) => (w'.cell? (ad774.add ((x7_1).toNat * 2)) = some (.int .i64 ((rd_T44 t768 x7_1).f0)) ∧ w'.cell? ⟨(ad774.add ((x7_1).toNat * 2)).block, (ad774.add ((x7_1).toNat * 2)).off + 1, none⟩ = some (.int .i64 ((rd_T44 t768 x7_1).f1)) ∧ w'.cell? (ad775.add ((((rd_T44 t768 x7_1).f0)).toNat * 5)) = some (.int .i64 ((rd_T31 t765 ((rd_T44 t768 x7_1).f0)).f0)) ∧ w'.cell? ⟨(ad775.add ((((rd_T44 t768 x7_1).f0)).toNat * 5)).block, (ad775.add ((((rd_T44 t768 x7_1).f0)).toNat * 5)).off + 1, none⟩ = some (.int .i64 ((rd_T31 t765 ((rd_T44 t768 x7_1).f0)).f1)) ∧ w'.cell? ⟨(ad775.add ((((rd_T44 t768 x7_1).f0)).toNat * 5)).block, (ad775.add ((((rd_T44 t768 x7_1).f0)).toNat * 5)).off + 2, none⟩ = some (.int .i64 ((rd_T31 t765 ((rd_T44 t768 x7_1).f0)).f2)) ∧ w'.cell? ⟨(ad775.add ((((rd_T44 t768 x7_1).f0)).toNat * 5)).block, (ad775.add ((((rd_T44 t768 x7_1).f0)).toNat * 5)).off + 3, none⟩ = some (.int .i64 ((rd_T31 t765 ((rd_T44 t768 x7_1).f0)).f3)) ∧ w'.cell? ⟨(ad775.add ((((rd_T44 t768 x7_1).f0)).toNat * 5)).block, (ad775.add ((((rd_T44 t768 x7_1).f0)).toNat * 5)).off + 4, none⟩ = some (.int .i64 ((rd_T31 t765 ((rd_T44 t768 x7_1).f0)).f4)) ∧ w'.cell? (ad774.add ((x7_1).toNat * 2)) = some (.int .i64 ((rd_T44 t768 x7_1).f0)) ∧ w'.cell? ⟨(ad774.add ((x7_1).toNat * 2)).block, (ad774.add ((x7_1).toNat * 2)).off + 1, none⟩ = some (.int .i64 ((rd_T44 t768 x7_1).f1)) ∧ w'.cell? (ad775.add ((((rd_T44 t768 x7_1).f1)).toNat * 5)) = some (.int .i64 ((rd_T31 t765 ((rd_T44 t768 x7_1).f1)).f0)) ∧ w'.cell? ⟨(ad775.add ((((rd_T44 t768 x7_1).f1)).toNat * 5)).block, (ad775.add ((((rd_T44 t768 x7_1).f1)).toNat * 5)).off + 1, none⟩ = some (.int .i64 ((rd_T31 t765 ((rd_T44 t768 x7_1).f1)).f1)) ∧ w'.cell? ⟨(ad775.add ((((rd_T44 t768 x7_1).f1)).toNat * 5)).block, (ad775.add ((((rd_T44 t768 x7_1).f1)).toNat * 5)).off + 2, none⟩ = some (.int .i64 ((rd_T31 t765 ((rd_T44 t768 x7_1).f1)).f2)) ∧ w'.cell? ⟨(ad775.add ((((rd_T44 t768 x7_1).f1)).toNat * 5)).block, (ad775.add ((((rd_T44 t768 x7_1).f1)).toNat * 5)).off + 3, none⟩ = some (.int .i64 ((rd_T31 t765 ((rd_T44 t768 x7_1).f1)).f3)) ∧ w'.cell? ⟨(ad775.add ((((rd_T44 t768 x7_1).f1)).toNat * 5)).block, (ad775.add ((((rd_T44 t768 x7_1).f1)).toNat * 5)).off + 4, none⟩ = some (.int .i64 ((rd_T31 t765 ((rd_T44 t768 x7_1).f1)).f4)))
abbrev zS2_17 := fun (gb778 : Nat) t765 t768 (x7_1 : Int) (gb779 : Nat) (ad774 : Addr) (ad781 : Addr) t771 (w' : World) => (w'.cell? ⟨gb778, 0, none⟩ = some (.int .i64 ((rd_T31 t765 ((rd_T44 t768 x7_1).f0)).f0)) ∧ w'.cell? ⟨gb778, 1, none⟩ = some (.int .i64 ((rd_T31 t765 ((rd_T44 t768 x7_1).f0)).f1)) ∧ w'.cell? ⟨gb778, 2, none⟩ = some (.int .i64 ((rd_T31 t765 ((rd_T44 t768 x7_1).f0)).f2)) ∧ w'.cell? ⟨gb778, 3, none⟩ = some (.int .i64 ((rd_T31 t765 ((rd_T44 t768 x7_1).f0)).f3)) ∧ w'.cell? ⟨gb778, 4, none⟩ = some (.int .i64 ((rd_T31 t765 ((rd_T44 t768 x7_1).f0)).f4)) ∧ w'.cell? ⟨gb779, 0, none⟩ = some (.int .i64 ((rd_T31 t765 ((rd_T44 t768 x7_1).f1)).f0)) ∧ w'.cell? ⟨gb779, 1, none⟩ = some (.int .i64 ((rd_T31 t765 ((rd_T44 t768 x7_1).f1)).f1)) ∧ w'.cell? ⟨gb779, 2, none⟩ = some (.int .i64 ((rd_T31 t765 ((rd_T44 t768 x7_1).f1)).f2)) ∧ w'.cell? ⟨gb779, 3, none⟩ = some (.int .i64 ((rd_T31 t765 ((rd_T44 t768 x7_1).f1)).f3)) ∧ w'.cell? ⟨gb779, 4, none⟩ = some (.int .i64 ((rd_T31 t765 ((rd_T44 t768 x7_1).f1)).f4)) ∧ w'.cell? (ad774.add ((x7_1).toNat * 2)) = some (.int .i64 ((rd_T44 t768 x7_1).f0)) ∧ w'.cell? ⟨(ad774.add ((x7_1).toNat * 2)).block, (ad774.add ((x7_1).toNat * 2)).off + 1, none⟩ = some (.int .i64 ((rd_T44 t768 x7_1).f1)) ∧ w'.cell? (ad781.add ((x7_1).toNat * 2)) = some (.int .i64 ((rd_T44 t771 x7_1).f0)) ∧ w'.cell? ⟨(ad781.add ((x7_1).toNat * 2)).block, (ad781.add ((x7_1).toNat * 2)).off + 1, none⟩ = some (.int .i64 ((rd_T44 t771 x7_1).f1)))
abbrev zS3_17 := fun (gb778 : Nat) t765 t768 (x7_1 : Int) (gb779 : Nat) (ad774 : Addr) (ad781 : Addr) t771 (w' : World) => (w'.cell? ⟨gb778, 0, none⟩ = some (.int .i64 ((rd_T31 t765 ((rd_T44 t768 x7_1).f0)).f0)) ∧ w'.cell? ⟨gb778, 1, none⟩ = some (.int .i64 ((rd_T31 t765 ((rd_T44 t768 x7_1).f0)).f1)) ∧ w'.cell? ⟨gb778, 2, none⟩ = some (.int .i64 ((rd_T31 t765 ((rd_T44 t768 x7_1).f0)).f2)) ∧ w'.cell? ⟨gb778, 3, none⟩ = some (.int .i64 ((rd_T31 t765 ((rd_T44 t768 x7_1).f0)).f3)) ∧ w'.cell? ⟨gb778, 4, none⟩ = some (.int .i64 ((rd_T31 t765 ((rd_T44 t768 x7_1).f0)).f4)) ∧ w'.cell? ⟨gb779, 0, none⟩ = some (.int .i64 ((rd_T31 t765 ((rd_T44 t768 x7_1).f1)).f0)) ∧ w'.cell? ⟨gb779, 1, none⟩ = some (.int .i64 ((rd_T31 t765 ((rd_T44 t768 x7_1).f1)).f1)) ∧ w'.cell? ⟨gb779, 2, none⟩ = some (.int .i64 ((rd_T31 t765 ((rd_T44 t768 x7_1).f1)).f2)) ∧ w'.cell? ⟨gb779, 3, none⟩ = some (.int .i64 ((rd_T31 t765 ((rd_T44 t768 x7_1).f1)).f3)) ∧ w'.cell? ⟨gb779, 4, none⟩ = some (.int .i64 ((rd_T31 t765 ((rd_T44 t768 x7_1).f1)).f4)) ∧ w'.cell? (ad774.add ((x7_1).toNat * 2)) = some (.int .i64 ((rd_T44 t768 x7_1).f0)) ∧ w'.cell? ⟨(ad774.add ((x7_1).toNat * 2)).block, (ad774.add ((x7_1).toNat * 2)).off + 1, none⟩ = some (.int .i64 ((rd_T44 t768 x7_1).f1)) ∧ w'.cell? (ad781.add ((x7_1).toNat * 2)) = some (.int .i64 ((rd_T44 t771 x7_1).f0)) ∧ w'.cell? ⟨(ad781.add ((x7_1).toNat * 2)).block, (ad781.add ((x7_1).toNat * 2)).off + 1, none⟩ = some (.int .i64 ((rd_T44 t771 x7_1).f1)) ∧ w'.cell? (ad774.add ((x7_1).toNat * 2)) = some (.int .i64 ((rd_T44 t768 x7_1).f0)) ∧ w'.cell? ⟨(ad774.add ((x7_1).toNat * 2)).block, (ad774.add ((x7_1).toNat * 2)).off + 1, none⟩ = some (.int .i64 ((rd_T44 t768 x7_1).f1)) ∧ w'.cell? (ad774.add ((x7_1).toNat * 2)) = some (.int .i64 ((rd_T44 t768 x7_1).f0)) ∧ w'.cell? ⟨(ad774.add ((x7_1).toNat * 2)).block, (ad774.add ((x7_1).toNat * 2)).off + 1, none⟩ = some (.int .i64 ((rd_T44 t768 x7_1).f1)))
theorem laws_FnRaces.calls (k : Nat) (A0 : Option Addr) (c0 : Nat) (l0 : List Int) (r : Bool) (w : World) (hr0 : Kd.C (Kd.int .u8) w A0 l0.length l0) (hc0 : l0.length ≤ c0) (h : laws_FnRaces.f k l0 = some r) :
  Calls Try.prog 6 #[.slice A0 l0.length c0] w fun e w' => e = .returned (.bool r) ∧ Below w.heap.size w w' := by
 have hu31 := Try.underlying31
 have hu44 := Try.underlying44
 have HR0 := zM hr0
 have HC0 := zM hc0
 clear hr0 hc0
 have HB := zM (Below.refl w.heap.size w)
 unfold laws_FnRaces.f at h
 have H := h
 clear h
 replace H := zO H
 obtain ⟨t763, A2, H⟩ := H
 by_cases c3 : t763 = true
 ·subst c3
  rw [if_pos rfl] at H
  obtain rfl := Option.some.inj H
  go_enter Try.func6, Try.ntmps6
  go_wp2_with (first | ((with_reducible refine zG Try.func8 13 #[.slice A0 l0.length c0] ?_); (with_reducible refine (laws_big.calls _ _ l0 true _ ?side1 ?side2 A2.1).mono ?_); (case side1 => exact zC HR0.1); (case side2 => exact HC0.1); rintro e w' ⟨rfl, ⟨nd, rfl⟩⟩; refine ⟨_, rfl, ?_⟩))
  go_ret
  exact ⟨zE, zB1⟩
 replace c3 := Bool.eq_false_iff.mpr c3
 subst c3
 rw [if_neg zF] at H
 replace H := zO H
 obtain ⟨⟨t764, t765⟩, A4, H⟩ := H
 try dsimp only at H
 replace H := zO H
 obtain ⟨t768, A5, H⟩ := H
 replace H := zO H
 obtain ⟨t771, A6, H⟩ := H
 by_cases c7 : (t768.length : Int) = (t771.length : Int)
 rotate_left
 ·rw [if_neg c7] at H
  have c7b0 : ((t768.length : Int) == (t771.length : Int)) = false := beq_eq_false_iff_ne.mpr c7
  have c7b1 : ((t768.length : Int) != (t771.length : Int)) = true := bne_iff_ne.mpr c7
  have c7b2 : (t768.length == t771.length) = false := by first | simpa using c7 | (simp at c7 ⊢; omega)
  obtain rfl := Option.some.inj H
  go_enter Try.func6, Try.ntmps6
  go_wp2_with (first | ((with_reducible refine zG Try.func8 13 #[.slice A0 l0.length c0] ?_); (with_reducible refine (laws_big.calls _ _ l0 false _ ?side1 ?side2 A2.1).mono ?_); (case side1 => exact zC HR0.1); (case side2 => exact HC0.1); rintro e w' ⟨rfl, ⟨nd, rfl⟩⟩; refine ⟨_, rfl, ?_⟩) | ((with_reducible refine zG Try.func18 16 #[.slice A0 l0.length c0] ?_); (with_reducible refine (spec_DrawRaces.calls k _ _ l0 t764 t765 _ ?side1 ?side2 A4.1).mono ?_); (case side1 => exact zC HR0.1); (case side2 => exact HC0.1); rintro e w156 ⟨v766, rfl, ho0, hb⟩; refine ⟨_, rfl, ?_⟩; have HO767 := zM (Kd.R_lower ho0 (below_size zB1)); replace HB := zM (below_step zB1 hb); clear hb ho0; obtain ⟨Ao157, co157, eo157⟩ := Kd.R_slice HO767.1; subst eo157) | ((with_reducible refine zG Try.func19 21 #[.int .i64 t764, .slice Ao157 t765.length co157] ?_); (with_reducible refine (impl_Races.calls k t764 _ _ t765 t768 _ ?side1 ?side2 A5.1).mono ?_); (case side1 => exact zC (Kd.R_reads' HO767.1).2.2); (case side2 => exact (Kd.R_reads' HO767.1).2.1); rintro e w158 ⟨v769, rfl, ho0, hb⟩; refine ⟨_, rfl, ?_⟩; replace HO767 := zM (Kd.R_below (zR HO767.1) hb); have HO770 := zM (Kd.R_lower ho0 (below_size zB1)); replace HB := zM (below_step zB1 hb); clear hb ho0) | ((with_reducible refine zG Try.func20 24 #[.int .i64 t764, .slice Ao157 t765.length co157] ?_); (with_reducible refine (spec_Races.calls k t764 _ _ t765 t771 _ ?side1 ?side2 A6.1).mono ?_); (case side1 => exact zC (Kd.R_reads' HO767.1).2.2); (case side2 => exact (Kd.R_reads' HO767.1).2.1); rintro e w159 ⟨v772, rfl, ho0, hb⟩; refine ⟨_, rfl, ?_⟩; replace HO767 := zM (Kd.R_below (zR HO767.1) hb); have HO773 := zM (Kd.R_lower (Kd.R_new' ho0 (Kd.R_lt (zR HO770.1))) (below_size zB1)); replace HO770 := zM (Kd.R_elder' (zR HO770.1) (Kd.R_base ho0) hb); replace HB := zM (below_step zB1 hb); clear hb ho0; obtain ⟨Ao160, co160, eo160⟩ := Kd.R_slice HO770.1; subst eo160; obtain ⟨Ao161, co161, eo161⟩ := Kd.R_slice HO773.1; subst eo161))
  go_ret
  exact ⟨zE, zB1⟩
 rw [if_pos c7] at H
 have c7b0 : ((t768.length : Int) == (t771.length : Int)) = true := beq_iff_eq.mpr c7
 have c7b1 : ((t768.length : Int) != (t771.length : Int)) = false := bne_eq_false_iff_eq.mpr c7
 have c7b2 : (t768.length == t771.length) = true := by first | simpa using c7 | (simp at c7 ⊢; omega)
 clear c7
 have H' := zM H
 clear H
 go_enter Try.func6, Try.ntmps6
 go_wp2_with (first | ((with_reducible refine zG Try.func8 13 #[.slice A0 l0.length c0] ?_); (with_reducible refine (laws_big.calls _ _ l0 false _ ?side1 ?side2 A2.1).mono ?_); (case side1 => exact zC HR0.1); (case side2 => exact HC0.1); rintro e w' ⟨rfl, ⟨nd, rfl⟩⟩; refine ⟨_, rfl, ?_⟩) | ((with_reducible refine zG Try.func18 16 #[.slice A0 l0.length c0] ?_); (with_reducible refine (spec_DrawRaces.calls k _ _ l0 t764 t765 _ ?side1 ?side2 A4.1).mono ?_); (case side1 => exact zC HR0.1); (case side2 => exact HC0.1); rintro e w8 ⟨v766, rfl, ho0, hb⟩; refine ⟨_, rfl, ?_⟩; have HO767 := zM (Kd.R_lower ho0 (below_size zB1)); replace HB := zM (below_step zB1 hb); clear hb ho0; obtain ⟨Ao9, co9, eo9⟩ := Kd.R_slice HO767.1; subst eo9) | ((with_reducible refine zG Try.func19 21 #[.int .i64 t764, .slice Ao9 t765.length co9] ?_); (with_reducible refine (impl_Races.calls k t764 _ _ t765 t768 _ ?side1 ?side2 A5.1).mono ?_); (case side1 => exact zC (Kd.R_reads' HO767.1).2.2); (case side2 => exact (Kd.R_reads' HO767.1).2.1); rintro e w10 ⟨v769, rfl, ho0, hb⟩; refine ⟨_, rfl, ?_⟩; replace HO767 := zM (Kd.R_below (zR HO767.1) hb); have HO770 := zM (Kd.R_lower ho0 (below_size zB1)); replace HB := zM (below_step zB1 hb); clear hb ho0) | ((with_reducible refine zG Try.func20 24 #[.int .i64 t764, .slice Ao9 t765.length co9] ?_); (with_reducible refine (spec_Races.calls k t764 _ _ t765 t771 _ ?side1 ?side2 A6.1).mono ?_); (case side1 => exact zC (Kd.R_reads' HO767.1).2.2); (case side2 => exact (Kd.R_reads' HO767.1).2.1); rintro e w11 ⟨v772, rfl, ho0, hb⟩; refine ⟨_, rfl, ?_⟩; replace HO767 := zM (Kd.R_below (zR HO767.1) hb); have HO773 := zM (Kd.R_lower (Kd.R_new' ho0 (Kd.R_lt (zR HO770.1))) (below_size zB1)); replace HO770 := zM (Kd.R_elder' (zR HO770.1) (Kd.R_base ho0) hb); replace HB := zM (below_step zB1 hb); clear hb ho0; obtain ⟨Ao12, co12, eo12⟩ := Kd.R_slice HO770.1; subst eo12; obtain ⟨Ao13, co13, eo13⟩ := Kd.R_slice HO773.1; subst eo13))
 go_loopg [7] k (fun kq v7 w' => ∃ (x7_1 : Int), v7 = .int .i64 x7_1 ∧ Aside0 (laws_FnRaces.l0 kq t764 t765 t768 t771 x7_1 = some r) ∧ Aside0 (kq ≤ k) ∧ Aside0 (Kd.R k31 31 w' w.heap.size (fun _ => True) (.slice Ao9 t765.length co9) t765) ∧ Aside0 (Kd.R k44 44 w' w.heap.size (fun k_ => some k_ ≠ ((.slice Ao13 t771.length co13) : Value).ownBlock) (.slice Ao12 t768.length co12) t768) ∧ Aside0 (Kd.R k44 44 w' w.heap.size (fun k_ => some k_ ≠ ((.slice Ao12 t768.length co12) : Value).ownBlock) (.slice Ao13 t771.length co13) t771) ∧ Aside0 (Below w.heap.size w w'))
 case atStart => exact ⟨(0), zJJ, H', ⟨Nat.le_refl _⟩, ⟨zR HO767.1⟩, ⟨by refine zrR ?_; exact Kd.R_mono HO770.1 (fun _ hk => hk.2)⟩, ⟨by refine zrR ?_; exact Kd.R_mono HO773.1 (fun _ hk => hk.2)⟩, ⟨zB1⟩⟩
 case round =>
  clear H'
  obtain ⟨x7_1, rfl, HA, HK1, HO_4, HO_5, HO_6, HB⟩ := hrel
  cases gk with
  | zero => exact absurd HA.1 (by simp [laws_FnRaces.l0])
  | succ k1 =>
   have H := HA.1
   clear HA
   simp only [laws_FnRaces.l0] at H
   by_cases c14 : x7_1 < (t768.length : Int)
   rotate_left
   ·rw [if_neg c14] at H
    have c14b0 := decide_eq_false c14
    clear c14
    generalize hy785 : ((([] : List (S31))) : List (S31)) = y785 at H
    have Ny785 := zM hy785.symm
    clear hy785
    have H' := zM H
    clear H
    go_wp2_with (first | ((with_reducible refine gate_dst (N := 100) rfl ?_); refine Kd.R_lit k31 _ 31 ?hg (N := 100) ?hd (xs := ([] : List (S31))) (inner := []) (ok := fun _ => True) (okp := fun _ => True) ?hr ?hp (fun _ hk => hk) trivial (Below.refl _ _) (Nat.le_refl _) (by simp) ?_; (case hd => rfl); (case hg => rfl); (case hr => exact zHH); (case hp => exact (Reps.none _ _)); intro v786 w144 ho145 hb hg_ hnew_; clear hg_ hnew_; (first | rw [← Ny785.1] at ho145 | (simp only [Int.reduceToNat] at ho145; rw [← Ny785.1] at ho145)); replace HO_5 := zM (Kd.R_below (zR HO_5.1) hb); replace HO_6 := zM (Kd.R_below (zR HO_6.1) hb); have HO787 := zM (Kd.R_lower (Kd.R_new' ho145 (Kd.R_lt (zR HO_4.1))) (below_size zB1)); replace HO_4 := zM (Kd.R_elder' (zR HO_4.1) (Kd.R_base ho145) hb); replace HB := zM (below_step zB1 hb); clear hb ho145))
    go_loopg [10, 11] k1 (fun kq v10 v11 w' => ∃ (x10_2 : List (S31)) (x11_2 : Int), v11 = .int .i64 x11_2 ∧ Aside0 (laws_FnRaces.l1 kq t764 t765 x10_2 x11_2 = some r) ∧ Aside0 (kq ≤ k1) ∧ Aside0 (Kd.R k31 31 w' w.heap.size (fun k_ => some k_ ≠ (v10 : Value).ownBlock) (.slice Ao9 t765.length co9) t765) ∧ Aside0 (Kd.R k31 31 w' w.heap.size (fun k_ => some k_ ≠ ((.slice Ao9 t765.length co9) : Value).ownBlock) v10 x10_2) ∧ Aside0 (Below w.heap.size w w'))
    case atStart => exact ⟨(y785), (0), zJJ, H', ⟨Nat.le_refl _⟩, ⟨by refine zrR ?_; exact Kd.R_mono HO_4.1 (fun _ hk => hk.2)⟩, ⟨by refine zrR ?_; exact Kd.R_mono HO787.1 (fun _ hk => hk.2)⟩, ⟨zB1⟩⟩
    case round =>
     clear H'
     obtain ⟨x10_2, x11_2, rfl, HA, HK2, HO_4, HO_10, HB⟩ := hrel
     cases gk with
     | zero => exact absurd HA.1 (by simp [laws_FnRaces.l1])
     | succ k2 =>
      have H := HA.1
      clear HA
      simp only [laws_FnRaces.l1] at H
      by_cases c146 : x11_2 < (t765.length : Int)
      rotate_left
      ·rw [if_neg c146] at H
       have c146b0 := decide_eq_false c146
       clear c146
       replace H := zO H
       obtain ⟨t794, A152, H⟩ := H
       obtain rfl := Option.some.inj H
       obtain ⟨Ao153, co153, eo153⟩ := Kd.R_slice HO_10.1
       subst eo153
       go_wp2_with (first | ((with_reducible refine zG Try.func19 130 #[.int .i64 t764, .slice Ao153 x10_2.length co153] ?_); (with_reducible refine (impl_Races.calls k2 t764 _ _ x10_2 t794 _ ?side1 ?side2 A152.1).mono ?_); (case side1 => exact zC (Kd.R_reads' HO_10.1).2.2); (case side2 => exact (Kd.R_reads' HO_10.1).2.1); rintro e w154 ⟨v795, rfl, ho0, hb⟩; refine ⟨_, rfl, ?_⟩; replace HO_4 := zM (Kd.R_below (zR HO_4.1) hb); replace HO_10 := zM (Kd.R_below (zR HO_10.1) hb); have HO796 := zM (Kd.R_lower ho0 (below_size zB1)); replace HB := zM (below_step zB1 hb); clear hb ho0; obtain ⟨Ao155, co155, eo155⟩ := Kd.R_slice HO796.1; subst eo155))
       go_ret
       exact ⟨zE, zB1⟩
      rw [if_pos c146] at H
      have c146b0 := decide_eq_true c146
      clear c146
      replace H := zIt H
      obtain ⟨c147b0, H⟩ := H
      by_cases c148 : ((rd_T31 t765 x11_2).f3) ≥ 0
      rotate_left
      ·rw [if_neg c148] at H
       have c148b0 := decide_eq_false c148
       clear c148
       have H' := zM H
       clear H
       obtain ⟨p788, q788, ad788, e788, hx788_0, hx788_1, hx788_2, hx788_3, hx788_4⟩ := zRd (at_T31 (Kd.R_reads' HO_4.1).2.2 x11_2)
       cases e788
       go_wp2
       go_roundg k2
       case measure => have := HK1.1; have := HK2.1; omega
       case rel => exact ⟨(x10_2), (wrap64 (x11_2 + 1)), zJJ, H', ⟨by have := HK1.1; have := HK2.1; omega⟩, ⟨zR HO_4.1⟩, ⟨zR HO_10.1⟩, ⟨zB1⟩⟩
      rw [if_pos c148] at H
      have c148b0 := decide_eq_true c148
      clear c148
      by_cases c149 : ((rd_T31 t765 x11_2).f4) ≥ 0
      rotate_left
      ·rw [if_neg c149] at H
       have c149b0 := decide_eq_false c149
       clear c149
       have H' := zM H
       clear H
       obtain ⟨p788, q788, ad788, e788, hx788_0, hx788_1, hx788_2, hx788_3, hx788_4⟩ := zRd (at_T31 (Kd.R_reads' HO_4.1).2.2 x11_2)
       cases e788
       obtain ⟨p789, q789, ad789, e789, hx789_0, hx789_1, hx789_2, hx789_3, hx789_4⟩ := zRd (at_T31 (Kd.R_reads' HO_4.1).2.2 x11_2)
       obtain rfl : ad788 = ad789 := (by injection e789)
       go_wp2
       go_roundg k2
       case measure => have := HK1.1; have := HK2.1; omega
       case rel => exact ⟨(x10_2), (wrap64 (x11_2 + 1)), zJJ, H', ⟨by have := HK1.1; have := HK2.1; omega⟩, ⟨zR HO_4.1⟩, ⟨zR HO_10.1⟩, ⟨zB1⟩⟩
      rw [if_pos c149] at H
      have c149b0 := decide_eq_true c149
      clear c149
      replace H := zIn H
      obtain ⟨LMc150, H⟩ := H
      generalize hy791 : ((x10_2 ++ [(⟨(rd_T31 t765 x11_2).f0, (rd_T31 t765 x11_2).f1, (rd_T31 t765 x11_2).f2, (rd_T31 t765 x11_2).f3, (rd_T31 t765 x11_2).f4⟩ : S31)]) : List (S31)) = y791 at H
      have Ny791 := zM hy791.symm
      clear hy791
      have H' := zM H
      clear H
      obtain ⟨p788, q788, ad788, e788, hx788_0, hx788_1, hx788_2, hx788_3, hx788_4⟩ := zRd (at_T31 (Kd.R_reads' HO_4.1).2.2 x11_2)
      cases e788
      obtain ⟨p789, q789, ad789, e789, hx789_0, hx789_1, hx789_2, hx789_3, hx789_4⟩ := zRd (at_T31 (Kd.R_reads' HO_4.1).2.2 x11_2)
      obtain rfl : ad788 = ad789 := (by injection e789)
      obtain ⟨p790, q790, ad790, e790, hx790_0, hx790_1, hx790_2, hx790_3, hx790_4⟩ := zRd (at_T31 (Kd.R_reads' HO_4.1).2.2 x11_2)
      obtain rfl : ad788 = ad790 := (by injection e790)
      go_wp2_with (first | ((with_reducible refine gate_builtin (b := .append) (xs := #[.tmp 121, .tmp 126]) rfl ?_); at_builtin; refine Kd.R_append k31 (w0 := w) w.heap.size rfl (.tmp 121) (.tmp 126) 24 31 (.agg #[(.int .i64 0), (.int .i64 0), (.int .i64 0), (.int .i64 0), (.int .i64 0)]) 40 rfl Try.underlying24 info31 rfl (by decide) (by omega) u10 x10_2 (⟨(rd_T31 t765 x11_2).f0, (rd_T31 t765 x11_2).f1, (rd_T31 t765 x11_2).f2, (rd_T31 t765 x11_2).f3, (rd_T31 t765 x11_2).f4⟩ : S31) [.int .i64 ((rd_T31 t765 x11_2).f0), .int .i64 ((rd_T31 t765 x11_2).f1), .int .i64 ((rd_T31 t765 x11_2).f2), .int .i64 ((rd_T31 t765 x11_2).f3), .int .i64 ((rd_T31 t765 x11_2).f4)] (fun k_ => some k_ ≠ (.slice (some ad788) t765.length co9 : Value).ownBlock) (fun _ => False) rfl rfl ?aP (fun _ hk => hk.elim) ?aF ?aO ?aB ?aS ?aL ?_; (case aP => exact k31_mkM _ _ _ (⟨(rd_T31 t765 x11_2).f0, (rd_T31 t765 x11_2).f1, (rd_T31 t765 x11_2).f2, (rd_T31 t765 x11_2).f3, (rd_T31 t765 x11_2).f4⟩ : S31)); (case aB => exact zB1); (case aF => exact (fun k_ hk => Kd.fresh' (Kd.R_lt (zR HO_4.1)) k_ hk)); (case aO => exact (zR HO_10.1)); (case aS => exact (below_size zB1)); (case aL => have := LMc150.out; omega); intro v792 w151 ho hb hg hat; rw [← Ny791.1] at ho; replace HO_4 := zM (Kd.R_after (ok := (fun _ => True)) (by refine zrR ?_; exact Kd.R_mono HO_4.1 (fun _ hk => ⟨trivial, hk⟩)) hg hat); replace HB := zM hb; have HO793 := zM ho; clear HO_10; clear ho hb hg hat))
      go_roundg k2
      case measure => have := HK1.1; have := HK2.1; omega
      case rel => exact ⟨(y791), (wrap64 (x11_2 + 1)), zJJ, H', ⟨by have := HK1.1; have := HK2.1; omega⟩, ⟨by refine zrR ?_; exact Kd.R_mono HO_4.1 (fun _ hk => hk.2)⟩, ⟨zR HO793.1⟩, ⟨zB1⟩⟩
   rw [if_pos c14] at H
   have c14b0 := decide_eq_true c14
   clear c14
   replace H := zIt H
   obtain ⟨c15b0, H⟩ := H
   replace H := zIt H
   obtain ⟨c16b0, H⟩ := H
   replace H := zIt H
   obtain ⟨c17b0, H⟩ := H
   replace H := zIt H
   obtain ⟨c18b0, H⟩ := H
   replace H := zIt H
   obtain ⟨c19b0, H⟩ := H
   replace H := zIt H
   obtain ⟨c20b0, H⟩ := H
   by_cases c21 : (!(((rd_T44 t768 x7_1).f0) == ((rd_T44 t771 x7_1).f0)) || (!(((rd_T44 t768 x7_1).f1) == ((rd_T44 t771 x7_1).f1)))) = true
   ·rw [if_pos c21] at H
    have c21b0 : (!(((rd_T44 t768 x7_1).f0) == ((rd_T44 t771 x7_1).f0)) || (!(((rd_T44 t768 x7_1).f1) == ((rd_T44 t771 x7_1).f1)))) = true := c21
    clear c21
    obtain rfl := Option.some.inj H
    try go_wp2
    replace HO_4 := zM (Kd.R_drew HO_4.1)
    replace HO_5 := zM (Kd.R_drew HO_5.1)
    replace HO_6 := zM (Kd.R_drew HO_6.1)
    replace HB := zM (below_drew1 HB.1)
    obtain ⟨p774, q774, ad774, e774, hx774_0, hx774_1⟩ := zRd (at_T44 (Kd.R_reads' HO_5.1).2.2 x7_1)
    cases e774
    obtain ⟨p775, q775, ad775, e775, hx775_0, hx775_1, hx775_2, hx775_3, hx775_4⟩ := zRd (at_T31 (Kd.R_reads' HO_4.1).2.2 ((rd_T44 t768 x7_1).f0))
    cases e775
    obtain ⟨p776, q776, ad776, e776, hx776_0, hx776_1⟩ := zRd (at_T44 (Kd.R_reads' HO_5.1).2.2 x7_1)
    obtain rfl : ad774 = ad776 := (by injection e776)
    obtain ⟨p777, q777, ad777, e777, hx777_0, hx777_1, hx777_2, hx777_3, hx777_4⟩ := zRd (at_T31 (Kd.R_reads' HO_4.1).2.2 ((rd_T44 t768 x7_1).f1))
    obtain rfl : ad775 = ad777 := (by injection e777)
    refine start_ (n := 20) (S := zS1_17 ad774 x7_1 t768 ad775 t765) (ds := []) zq17_0 (by kernel_rfl) rfl rfl ⟨hx774_0, hx774_1, hx775_0, hx775_1, hx775_2, hx775_3, hx775_4, hx776_0, hx776_1, hx777_0, hx777_1, hx777_2, hx777_3, hx777_4⟩ (fun hHeld => ?_); refine with_tabW laws_FnRaces.tab11 laws_FnRaces.bits11 (fun HT_ HW_ => ?_)
    generalize wr.drew = w22 at HO_4 HO_5 HO_6 HB hx774_0 hx774_1 hx775_0 hx775_1 hx775_2 hx775_3 hx775_4 hx776_0 hx776_1 hx777_0 hx777_1 hx777_2 hx777_3 hx777_4 hHeld ⊢
    refine zPu 0 ?_
    refine zPu 1 ?_
    refine zPu 2 ?_
    refine zPu 3 ?_
    refine zPu 4 ?_
    refine zPu 8 ?_
    refine zPu 9 ?_
    refine zPu 10 ?_
    refine zPu 11 ?_
    refine zPu 12 ?_
    refine zTk14 5 hHeld ?_
    refine zPu 6 ?_
    refine zTk14 7 hHeld ?_
    refine zTk14 13 hHeld ?_
    refine zPu 14 ?_
    refine zTk14 15 hHeld ?_
    refine join_ (σ := Nat × Nat) 2 zq17_17 (fun s_ => [(8, .pointer (some ⟨s_.1, 0, none⟩)), (9, .pointer (some ⟨s_.2, 0, none⟩))]) (fun s_ w' => (zS1_17 ad774 x7_1 t768 ad775 t765 w') ∧ (Kd.R k31 31 w' w.heap.size (fun k_ => k_ ≠ s_.1 ∧ k_ ≠ s_.2) (.slice (some ad775) t765.length co9) t765) ∧ (Kd.R k44 44 w' w.heap.size (fun k_ => some k_ ≠ (.slice Ao13 t771.length co13 : Value).ownBlock) (.slice (some ad774) t768.length co12) t768) ∧ (Kd.R k44 44 w' w.heap.size (fun k_ => some k_ ≠ (.slice (some ad774) t768.length co12 : Value).ownBlock) (.slice Ao13 t771.length co13) t771) ∧ (w'.heap[s_.1]? = some (.cells #[.int .i64 0, .int .i64 0, .int .i64 0, .int .i64 0, .int .i64 0] 31 (0, 0))) ∧ (w'.heap[s_.2]? = some (.cells #[.int .i64 0, .int .i64 0, .int .i64 0, .int .i64 0, .int .i64 0] 31 (0, 0))) ∧ (w.heap.size ≤ s_.1) ∧ (w.heap.size ≤ s_.1) ∧ (s_.2 ≠ s_.1) ∧ (s_.1 ≠ s_.2) ∧ (w.heap.size ≤ s_.2) ∧ (w.heap.size ≤ s_.2) ∧ (Below w.heap.size w w')) ?_ ?_
    rotate_left
    ·intro hCont
     refine two_ (i := 16) (j := 17) (Ni := some 8) (Nj := some 9) zq17_18 zq17_19 rfl rfl rfl rfl (two_of HT_.1 (by kernel_rfl)) (by decide) (by decide) (fun K hK => ?_) (fun K hK => ?_)
     ·refine zBs 8 31 #[.int .i64 0, .int .i64 0, .int .i64 0, .int .i64 0, .int .i64 0] ?_
      intro gb778 hg w23 hbox hb
      replace HO_4 := zM (Kd.R_below (Kd.R_elderB (zR HO_4.1) gb778 (Nat.le_of_eq hg.symm)) hb)
      replace HO_5 := zM (Kd.R_below (zR HO_5.1) hb)
      replace HO_6 := zM (Kd.R_below (zR HO_6.1) hb)
      replace BK778 := zM hbox
      replace GW778 := zM (zW hg (below_size zB1))
      replace GE778 := zM (zW hg (below_size zB1))
      replace HB := zM (below_step zB1 hb)
      refine hK.out _ _ zCs fun hHeld => ?_
      clear hK K
      refine zNo ?_
      refine zOn 17 (some 9) fun K hK => ?_
      refine zBs 9 31 #[.int .i64 0, .int .i64 0, .int .i64 0, .int .i64 0, .int .i64 0] ?_
      intro gb779 hg w24 hbox hb
      replace HO_4 := zM (Kd.R_below (Kd.R_elderB (zR HO_4.1) gb779 (Nat.le_of_eq hg.symm)) hb)
      replace HO_5 := zM (Kd.R_below (zR HO_5.1) hb)
      replace HO_6 := zM (Kd.R_below (zR HO_6.1) hb)
      replace BK779 := zM hbox
      replace GW779 := zM (zW hg (below_size zB1))
      replace GE779 := zM (zW hg (below_size zB1))
      replace HB := zM (below_step zB1 hb)
      replace NB778_779 := zM ((zn BK778.1 hg : gb778 ≠ gb779))
      replace NB779_778 := zM ((zm BK778.1 hg : gb779 ≠ gb778))
      replace BK778 := zM (zb BK778.1 hb)
      refine hK.out _ _ zCs fun hHeld => ?_
      clear hK K
      refine zNo ?_
      exact norm_ zNr (hCont (gb778, gb779) _ ⟨hHeld, (by refine zrR ?_; exact Kd.R_mono HO_4.1 (fun _ hk => ⟨hk.1.2, hk.2⟩)), (zR HO_5.1), (zR HO_6.1), (zK BK778.1), (zK BK779.1), GW778.1, GE778.1, NB779_778.1, NB778_779.1, GW779.1, GE779.1, zB1⟩)
     ·refine zBs 9 31 #[.int .i64 0, .int .i64 0, .int .i64 0, .int .i64 0, .int .i64 0] ?_
      intro gb779 hg w23 hbox hb
      replace HO_4 := zM (Kd.R_below (Kd.R_elderB (zR HO_4.1) gb779 (Nat.le_of_eq hg.symm)) hb)
      replace HO_5 := zM (Kd.R_below (zR HO_5.1) hb)
      replace HO_6 := zM (Kd.R_below (zR HO_6.1) hb)
      replace BK779 := zM hbox
      replace GW779 := zM (zW hg (below_size zB1))
      replace GE779 := zM (zW hg (below_size zB1))
      replace HB := zM (below_step zB1 hb)
      refine hK.out _ _ zCs fun hHeld => ?_
      clear hK K
      refine zNo ?_
      refine zOn 16 (some 8) fun K hK => ?_
      refine zBs 8 31 #[.int .i64 0, .int .i64 0, .int .i64 0, .int .i64 0, .int .i64 0] ?_
      intro gb778 hg w24 hbox hb
      replace HO_4 := zM (Kd.R_below (Kd.R_elderB (zR HO_4.1) gb778 (Nat.le_of_eq hg.symm)) hb)
      replace HO_5 := zM (Kd.R_below (zR HO_5.1) hb)
      replace HO_6 := zM (Kd.R_below (zR HO_6.1) hb)
      replace BK778 := zM hbox
      replace GW778 := zM (zW hg (below_size zB1))
      replace GE778 := zM (zW hg (below_size zB1))
      replace HB := zM (below_step zB1 hb)
      replace NB779_778 := zM ((zn BK779.1 hg : gb779 ≠ gb778))
      replace NB778_779 := zM ((zm BK779.1 hg : gb778 ≠ gb779))
      replace BK779 := zM (zb BK779.1 hb)
      refine hK.out _ _ zCs fun hHeld => ?_
      clear hK K
      refine zNo ?_
      exact norm_ zNr (hCont (gb778, gb779) _ ⟨hHeld, (by refine zrR ?_; exact Kd.R_mono HO_4.1 (fun _ hk => ⟨hk.2, hk.1.2⟩)), (zR HO_5.1), (zR HO_6.1), (zK BK778.1), (zK BK779.1), GW778.1, GE778.1, NB779_778.1, NB778_779.1, GW779.1, GE779.1, zB1⟩)
    rintro ⟨gb778, gb779⟩ w25 ⟨hS_, h0_, h1_, h2_, h3_, h4_, h5_, h6_, h7_, h8_, h9_, h10_, h11_⟩
    replace HO_4 := zM h0_
    replace HO_5 := zM h1_
    replace HO_6 := zM h2_
    replace BK778 := zM h3_
    replace BK779 := zM h4_
    replace GW778 := zM h5_
    replace GE778 := zM h6_
    replace NB779_778 := zM h7_
    replace NB778_779 := zM h8_
    replace GW779 := zM h9_
    replace GE779 := zM h10_
    replace HB := zM h11_
    have hHeld := hS_
    refine zNp ?_
    refine zOn 18 none fun K hK => ?_
    obtain ⟨hs26, hfs26⟩ := zHs BK778.1 0
    have hns26_1 := NB779_778.1
    have hms26_1 := NB778_779.1
    obtain ⟨hs27, hfs27⟩ := zHs BK778.1 1
    have hns27_1 := NB779_778.1
    have hms27_1 := NB778_779.1
    obtain ⟨hs28, hfs28⟩ := zHs BK778.1 2
    have hns28_1 := NB779_778.1
    have hms28_1 := NB778_779.1
    obtain ⟨hs29, hfs29⟩ := zHs BK778.1 3
    have hns29_1 := NB779_778.1
    have hms29_1 := NB778_779.1
    obtain ⟨hs30, hfs30⟩ := zHs BK778.1 4
    have hns30_1 := NB779_778.1
    have hms30_1 := NB778_779.1
    refine skip_ (w1 := ?_) (by rfl) rfl ?_ ?_
    rotate_left
    ·go_simp
     rfl
    have f0_ := zM (Kd.own_blk (Kd.R_ne HO_5.1 BK778.1 (by decide)))
    have f1_ := zM (Kd.own_blk (Kd.R_away HO_4.1 (fun _ hk => hk.1)))
    refine hK.out _ _ zCu fun hHeld => ?_
    clear hK K
    refine zOn 19 none fun K hK => ?_
    obtain ⟨hs31, hfs31⟩ := zHs BK779.1 0
    have hns31_0 := NB778_779.1
    have hms31_0 := NB779_778.1
    obtain ⟨hs32, hfs32⟩ := zHs BK779.1 1
    have hns32_0 := NB778_779.1
    have hms32_0 := NB779_778.1
    obtain ⟨hs33, hfs33⟩ := zHs BK779.1 2
    have hns33_0 := NB778_779.1
    have hms33_0 := NB779_778.1
    obtain ⟨hs34, hfs34⟩ := zHs BK779.1 3
    have hns34_0 := NB778_779.1
    have hms34_0 := NB779_778.1
    obtain ⟨hs35, hfs35⟩ := zHs BK779.1 4
    have hns35_0 := NB778_779.1
    have hms35_0 := NB779_778.1
    refine skip_ (w1 := ?_) (by rfl) rfl ?_ ?_
    rotate_left
    ·go_simp
     rfl
    have f0_ := zM (Kd.own_blk (Kd.R_ne HO_5.1 BK779.1 (by decide)))
    have f1_ := zM (Kd.own_blk (Kd.R_away HO_4.1 (fun _ hk => hk.2)))
    refine hK.out _ _ zCu fun hHeld => ?_
    clear hK K
    refine done_ (done_of HT_.1 (by kernel_rfl)) ?_
    try go_wp2
    generalize hw_ : ((((((((((w25.setCell ⟨gb778, 0, none⟩ (.int .i64 ((rd_T31 t765 ((rd_T44 t768 x7_1).f0)).f0))).setCell ⟨gb778, 1, none⟩ (.int .i64 ((rd_T31 t765 ((rd_T44 t768 x7_1).f0)).f1))).setCell ⟨gb778, 2, none⟩ (.int .i64 ((rd_T31 t765 ((rd_T44 t768 x7_1).f0)).f2))).setCell ⟨gb778, 3, none⟩ (.int .i64 ((rd_T31 t765 ((rd_T44 t768 x7_1).f0)).f3))).setCell ⟨gb778, 4, none⟩ (.int .i64 ((rd_T31 t765 ((rd_T44 t768 x7_1).f0)).f4))).setCell ⟨gb779, 0, none⟩ (.int .i64 ((rd_T31 t765 ((rd_T44 t768 x7_1).f1)).f0))).setCell ⟨gb779, 1, none⟩ (.int .i64 ((rd_T31 t765 ((rd_T44 t768 x7_1).f1)).f1))).setCell ⟨gb779, 2, none⟩ (.int .i64 ((rd_T31 t765 ((rd_T44 t768 x7_1).f1)).f2))).setCell ⟨gb779, 3, none⟩ (.int .i64 ((rd_T31 t765 ((rd_T44 t768 x7_1).f1)).f3))).setCell ⟨gb779, 4, none⟩ (.int .i64 ((rd_T31 t765 ((rd_T44 t768 x7_1).f1)).f4))) = w36
    have n0_ : Aside0 (Kd.R k31 31 w36 w.heap.size (fun k_ => k_ ≠ gb778 ∧ k_ ≠ gb779) (.slice (some ad775) t765.length co9) t765) := ⟨by rw [← hw_]; refine zrR ?_; exact Kd.R_mono (zfR (zfR (zfR (zfR (zfR (zgR (zgR (zgR (zgR (zgR (Kd.R_mono (Kd.R_mono HO_4.1 (fun k_ hk => (⟨hk, hk.1⟩ : _ ∧ k_ ≠ gb778))) (fun k_ hk => (⟨hk, hk.1.2⟩ : _ ∧ k_ ≠ gb779))))))))))))) (fun _ hk => ⟨hk.1.1.1, hk.1.1.2⟩)⟩
    have n1_ : Aside0 (Kd.R k44 44 w36 w.heap.size (fun k_ => some k_ ≠ (.slice Ao13 t771.length co13 : Value).ownBlock) (.slice (some ad774) t768.length co12) t768) := ⟨by rw [← hw_]; refine zrR ?_; exact Kd.R_mono (zfR (zfR (zfR (zfR (zfR (zgR (zgR (zgR (zgR (zgR (Kd.R_types (Kd.R_types HO_5.1 BK778.1 (by decide)) BK779.1 (by decide)))))))))))) (fun _ hk => hk.1.1)⟩
    have n2_ : Aside0 (Kd.R k44 44 w36 w.heap.size (fun k_ => some k_ ≠ (.slice (some ad774) t768.length co12 : Value).ownBlock) (.slice Ao13 t771.length co13) t771) := ⟨by rw [← hw_]; refine zrR ?_; exact Kd.R_mono (zfR (zfR (zfR (zfR (zfR (zgR (zgR (zgR (zgR (zgR (Kd.R_types (Kd.R_types HO_6.1 BK778.1 (by decide)) BK779.1 (by decide)))))))))))) (fun _ hk => hk.1.1)⟩
    have n3_ : Aside0 (w36.heap[gb778]? = some (.cells #[.int .i64 ((rd_T31 t765 ((rd_T44 t768 x7_1).f0)).f0), .int .i64 ((rd_T31 t765 ((rd_T44 t768 x7_1).f0)).f1), .int .i64 ((rd_T31 t765 ((rd_T44 t768 x7_1).f0)).f2), .int .i64 ((rd_T31 t765 ((rd_T44 t768 x7_1).f0)).f3), .int .i64 ((rd_T31 t765 ((rd_T44 t768 x7_1).f0)).f4)] 31 (0, 0))) := ⟨by rw [← hw_]; exact zPq⟩
    have n4_ : Aside0 (w36.heap[gb779]? = some (.cells #[.int .i64 ((rd_T31 t765 ((rd_T44 t768 x7_1).f1)).f0), .int .i64 ((rd_T31 t765 ((rd_T44 t768 x7_1).f1)).f1), .int .i64 ((rd_T31 t765 ((rd_T44 t768 x7_1).f1)).f2), .int .i64 ((rd_T31 t765 ((rd_T44 t768 x7_1).f1)).f3), .int .i64 ((rd_T31 t765 ((rd_T44 t768 x7_1).f1)).f4)] 31 (0, 0))) := ⟨by rw [← hw_]; exact zPq⟩
    have n5_ : Aside0 (Below w.heap.size w w36) := ⟨by rw [← hw_]; exact zB1⟩
    (try clear HO_4)
    (try clear HO_5)
    (try clear HO_6)
    (try clear BK778)
    (try clear BK779)
    (try clear HB)
    clear hw_
    have HO_4 := n0_
    have HO_5 := n1_
    have HO_6 := n2_
    have BK778 := n3_
    have BK779 := n4_
    have HB := n5_
    clear n0_ n1_ n2_ n3_ n4_ n5_
    replace HO_4 := zM (Kd.R_drew HO_4.1)
    replace HO_5 := zM (Kd.R_drew HO_5.1)
    replace HO_6 := zM (Kd.R_drew HO_6.1)
    replace BK778 := zM (blk_drew BK778.1)
    replace BK779 := zM (blk_drew BK779.1)
    replace HB := zM (below_drew1 HB.1)
    obtain ⟨p780, q780, ad780, e780, hx780_0, hx780_1⟩ := zRd (at_T44 (Kd.R_reads' HO_5.1).2.2 x7_1)
    obtain rfl : ad774 = ad780 := (by injection e780)
    obtain ⟨p781, q781, ad781, e781, hx781_0, hx781_1⟩ := zRd (at_T44 (Kd.R_reads' HO_6.1).2.2 x7_1)
    cases e781
    refine start_ (n := 48) (S := fun w' => w'.cell? (ad774.add ((x7_1).toNat * 2)) = some (.int .i64 ((rd_T44 t768 x7_1).f0)) ∧ w'.cell? ⟨(ad774.add ((x7_1).toNat * 2)).block, (ad774.add ((x7_1).toNat * 2)).off + 1, none⟩ = some (.int .i64 ((rd_T44 t768 x7_1).f1)) ∧ w'.cell? (ad781.add ((x7_1).toNat * 2)) = some (.int .i64 ((rd_T44 t771 x7_1).f0)) ∧ w'.cell? ⟨(ad781.add ((x7_1).toNat * 2)).block, (ad781.add ((x7_1).toNat * 2)).off + 1, none⟩ = some (.int .i64 ((rd_T44 t771 x7_1).f1))) (ds := []) zq17_22 (by kernel_rfl) rfl rfl ⟨hx780_0, hx780_1, hx781_0, hx781_1⟩ (fun hHeld => ?_); refine with_tabW laws_FnRaces.tab12 laws_FnRaces.bits12 (fun HT_ HW_ => ?_)
    generalize w36.drew = w37 at HO_4 HO_5 HO_6 BK778 BK779 HB hx780_0 hx780_1 hx781_0 hx781_1 hHeld ⊢
    refine zPu 0 ?_
    refine zPu 1 ?_
    refine zPu 2 ?_
    refine zPu 4 ?_
    refine zPu 5 ?_
    refine zPu 6 ?_
    refine zTk4 3 hHeld ?_
    refine zTk4 7 hHeld ?_
    refine zPu 8 ?_
    refine zPu 9 ?_
    refine zPn 10 ?_
    refine zPn 11 ?_
    refine zPn 12 ?_
    refine zPn 13 ?_
    refine zPn 14 ?_
    refine zPu 15 ?_
    refine zPu 16 ?_
    refine zPn 17 ?_
    refine zPn 18 ?_
    refine zPn 19 ?_
    refine zPn 20 ?_
    refine zPn 21 ?_
    refine zPu 22 ?_
    refine zPu 23 ?_
    refine zPn 24 ?_
    refine zPn 25 ?_
    refine zPn 26 ?_
    refine zPn 27 ?_
    refine zPn 28 ?_
    refine zPn 29 ?_
    refine zPn 30 ?_
    refine zPn 31 ?_
    refine zPn 32 ?_
    refine zPn 33 ?_
    refine zPn 34 ?_
    refine zPn 35 ?_
    refine zPn 36 ?_
    refine zPu 37 ?_
    refine zPu 38 ?_
    refine zPn 39 ?_
    refine zPn 40 ?_
    refine zPn 41 ?_
    refine zPn 42 ?_
    refine zPn 43 ?_
    refine zPn 44 ?_
    refine zPn 45 ?_
    refine zPn 46 ?_
    refine zPu 47 ?_
    refine done_ (done_of HT_.1 (by kernel_rfl)) ?_
    try go_wp2
    go_ret
    exact ⟨zE, zB1⟩
   rw [if_neg c21] at H
   have c21b0 : (!(((rd_T44 t768 x7_1).f0) == ((rd_T44 t771 x7_1).f0)) || (!(((rd_T44 t768 x7_1).f1) == ((rd_T44 t771 x7_1).f1)))) = false := by simpa using c21
   clear c21
   by_cases c38 : ((rd_T31 t765 ((rd_T44 t768 x7_1).f0)).f2) = ((rd_T31 t765 ((rd_T44 t768 x7_1).f1)).f2)
   rotate_left
   ·rw [if_neg c38] at H
    have c38b0 : (((rd_T31 t765 ((rd_T44 t768 x7_1).f0)).f2) == ((rd_T31 t765 ((rd_T44 t768 x7_1).f1)).f2)) = false := beq_eq_false_iff_ne.mpr c38
    have c38b1 : (((rd_T31 t765 ((rd_T44 t768 x7_1).f0)).f2) != ((rd_T31 t765 ((rd_T44 t768 x7_1).f1)).f2)) = true := bne_iff_ne.mpr c38
    obtain rfl := Option.some.inj H
    try go_wp2
    replace HO_4 := zM (Kd.R_drew HO_4.1)
    replace HO_5 := zM (Kd.R_drew HO_5.1)
    replace HO_6 := zM (Kd.R_drew HO_6.1)
    replace HB := zM (below_drew1 HB.1)
    obtain ⟨p774, q774, ad774, e774, hx774_0, hx774_1⟩ := zRd (at_T44 (Kd.R_reads' HO_5.1).2.2 x7_1)
    cases e774
    obtain ⟨p775, q775, ad775, e775, hx775_0, hx775_1, hx775_2, hx775_3, hx775_4⟩ := zRd (at_T31 (Kd.R_reads' HO_4.1).2.2 ((rd_T44 t768 x7_1).f0))
    cases e775
    obtain ⟨p776, q776, ad776, e776, hx776_0, hx776_1⟩ := zRd (at_T44 (Kd.R_reads' HO_5.1).2.2 x7_1)
    obtain rfl : ad774 = ad776 := (by injection e776)
    obtain ⟨p777, q777, ad777, e777, hx777_0, hx777_1, hx777_2, hx777_3, hx777_4⟩ := zRd (at_T31 (Kd.R_reads' HO_4.1).2.2 ((rd_T44 t768 x7_1).f1))
    obtain rfl : ad775 = ad777 := (by injection e777)
    refine start_ (n := 20) (S := zS1_17 ad774 x7_1 t768 ad775 t765) (ds := []) zq17_0 (by kernel_rfl) rfl rfl ⟨hx774_0, hx774_1, hx775_0, hx775_1, hx775_2, hx775_3, hx775_4, hx776_0, hx776_1, hx777_0, hx777_1, hx777_2, hx777_3, hx777_4⟩ (fun hHeld => ?_); refine with_tabW laws_FnRaces.tab11 laws_FnRaces.bits11 (fun HT_ HW_ => ?_)
    generalize wr.drew = w128 at HO_4 HO_5 HO_6 HB hx774_0 hx774_1 hx775_0 hx775_1 hx775_2 hx775_3 hx775_4 hx776_0 hx776_1 hx777_0 hx777_1 hx777_2 hx777_3 hx777_4 hHeld ⊢
    refine zPu 0 ?_
    refine zPu 1 ?_
    refine zPu 2 ?_
    refine zPu 3 ?_
    refine zPu 4 ?_
    refine zPu 8 ?_
    refine zPu 9 ?_
    refine zPu 10 ?_
    refine zPu 11 ?_
    refine zPu 12 ?_
    refine zTk14 5 hHeld ?_
    refine zPu 6 ?_
    refine zTk14 7 hHeld ?_
    refine zTk14 13 hHeld ?_
    refine zPu 14 ?_
    refine zTk14 15 hHeld ?_
    refine join_ (σ := Nat × Nat) 2 zq17_17 (fun s_ => [(8, .pointer (some ⟨s_.1, 0, none⟩)), (9, .pointer (some ⟨s_.2, 0, none⟩))]) (fun s_ w' => (zS1_17 ad774 x7_1 t768 ad775 t765 w') ∧ (Kd.R k31 31 w' w.heap.size (fun k_ => k_ ≠ s_.1 ∧ k_ ≠ s_.2) (.slice (some ad775) t765.length co9) t765) ∧ (Kd.R k44 44 w' w.heap.size (fun k_ => some k_ ≠ (.slice Ao13 t771.length co13 : Value).ownBlock) (.slice (some ad774) t768.length co12) t768) ∧ (Kd.R k44 44 w' w.heap.size (fun k_ => some k_ ≠ (.slice (some ad774) t768.length co12 : Value).ownBlock) (.slice Ao13 t771.length co13) t771) ∧ (w'.heap[s_.1]? = some (.cells #[.int .i64 0, .int .i64 0, .int .i64 0, .int .i64 0, .int .i64 0] 31 (0, 0))) ∧ (w'.heap[s_.2]? = some (.cells #[.int .i64 0, .int .i64 0, .int .i64 0, .int .i64 0, .int .i64 0] 31 (0, 0))) ∧ (w.heap.size ≤ s_.1) ∧ (w.heap.size ≤ s_.1) ∧ (s_.2 ≠ s_.1) ∧ (s_.1 ≠ s_.2) ∧ (w.heap.size ≤ s_.2) ∧ (w.heap.size ≤ s_.2) ∧ (Below w.heap.size w w')) ?_ ?_
    rotate_left
    ·intro hCont
     refine two_ (i := 16) (j := 17) (Ni := some 8) (Nj := some 9) zq17_18 zq17_19 rfl rfl rfl rfl (two_of HT_.1 (by kernel_rfl)) (by decide) (by decide) (fun K hK => ?_) (fun K hK => ?_)
     ·refine zBs 8 31 #[.int .i64 0, .int .i64 0, .int .i64 0, .int .i64 0, .int .i64 0] ?_
      intro gb778 hg w129 hbox hb
      replace HO_4 := zM (Kd.R_below (Kd.R_elderB (zR HO_4.1) gb778 (Nat.le_of_eq hg.symm)) hb)
      replace HO_5 := zM (Kd.R_below (zR HO_5.1) hb)
      replace HO_6 := zM (Kd.R_below (zR HO_6.1) hb)
      replace BK778 := zM hbox
      replace GW778 := zM (zW hg (below_size zB1))
      replace GE778 := zM (zW hg (below_size zB1))
      replace HB := zM (below_step zB1 hb)
      refine hK.out _ _ zCs fun hHeld => ?_
      clear hK K
      refine zNo ?_
      refine zOn 17 (some 9) fun K hK => ?_
      refine zBs 9 31 #[.int .i64 0, .int .i64 0, .int .i64 0, .int .i64 0, .int .i64 0] ?_
      intro gb779 hg w130 hbox hb
      replace HO_4 := zM (Kd.R_below (Kd.R_elderB (zR HO_4.1) gb779 (Nat.le_of_eq hg.symm)) hb)
      replace HO_5 := zM (Kd.R_below (zR HO_5.1) hb)
      replace HO_6 := zM (Kd.R_below (zR HO_6.1) hb)
      replace BK779 := zM hbox
      replace GW779 := zM (zW hg (below_size zB1))
      replace GE779 := zM (zW hg (below_size zB1))
      replace HB := zM (below_step zB1 hb)
      replace NB778_779 := zM ((zn BK778.1 hg : gb778 ≠ gb779))
      replace NB779_778 := zM ((zm BK778.1 hg : gb779 ≠ gb778))
      replace BK778 := zM (zb BK778.1 hb)
      refine hK.out _ _ zCs fun hHeld => ?_
      clear hK K
      refine zNo ?_
      exact norm_ zNr (hCont (gb778, gb779) _ ⟨hHeld, (by refine zrR ?_; exact Kd.R_mono HO_4.1 (fun _ hk => ⟨hk.1.2, hk.2⟩)), (zR HO_5.1), (zR HO_6.1), (zK BK778.1), (zK BK779.1), GW778.1, GE778.1, NB779_778.1, NB778_779.1, GW779.1, GE779.1, zB1⟩)
     ·refine zBs 9 31 #[.int .i64 0, .int .i64 0, .int .i64 0, .int .i64 0, .int .i64 0] ?_
      intro gb779 hg w129 hbox hb
      replace HO_4 := zM (Kd.R_below (Kd.R_elderB (zR HO_4.1) gb779 (Nat.le_of_eq hg.symm)) hb)
      replace HO_5 := zM (Kd.R_below (zR HO_5.1) hb)
      replace HO_6 := zM (Kd.R_below (zR HO_6.1) hb)
      replace BK779 := zM hbox
      replace GW779 := zM (zW hg (below_size zB1))
      replace GE779 := zM (zW hg (below_size zB1))
      replace HB := zM (below_step zB1 hb)
      refine hK.out _ _ zCs fun hHeld => ?_
      clear hK K
      refine zNo ?_
      refine zOn 16 (some 8) fun K hK => ?_
      refine zBs 8 31 #[.int .i64 0, .int .i64 0, .int .i64 0, .int .i64 0, .int .i64 0] ?_
      intro gb778 hg w130 hbox hb
      replace HO_4 := zM (Kd.R_below (Kd.R_elderB (zR HO_4.1) gb778 (Nat.le_of_eq hg.symm)) hb)
      replace HO_5 := zM (Kd.R_below (zR HO_5.1) hb)
      replace HO_6 := zM (Kd.R_below (zR HO_6.1) hb)
      replace BK778 := zM hbox
      replace GW778 := zM (zW hg (below_size zB1))
      replace GE778 := zM (zW hg (below_size zB1))
      replace HB := zM (below_step zB1 hb)
      replace NB779_778 := zM ((zn BK779.1 hg : gb779 ≠ gb778))
      replace NB778_779 := zM ((zm BK779.1 hg : gb778 ≠ gb779))
      replace BK779 := zM (zb BK779.1 hb)
      refine hK.out _ _ zCs fun hHeld => ?_
      clear hK K
      refine zNo ?_
      exact norm_ zNr (hCont (gb778, gb779) _ ⟨hHeld, (by refine zrR ?_; exact Kd.R_mono HO_4.1 (fun _ hk => ⟨hk.2, hk.1.2⟩)), (zR HO_5.1), (zR HO_6.1), (zK BK778.1), (zK BK779.1), GW778.1, GE778.1, NB779_778.1, NB778_779.1, GW779.1, GE779.1, zB1⟩)
    rintro ⟨gb778, gb779⟩ w131 ⟨hS_, h0_, h1_, h2_, h3_, h4_, h5_, h6_, h7_, h8_, h9_, h10_, h11_⟩
    replace HO_4 := zM h0_
    replace HO_5 := zM h1_
    replace HO_6 := zM h2_
    replace BK778 := zM h3_
    replace BK779 := zM h4_
    replace GW778 := zM h5_
    replace GE778 := zM h6_
    replace NB779_778 := zM h7_
    replace NB778_779 := zM h8_
    replace GW779 := zM h9_
    replace GE779 := zM h10_
    replace HB := zM h11_
    have hHeld := hS_
    refine zNp ?_
    refine zOn 18 none fun K hK => ?_
    obtain ⟨hs132, hfs132⟩ := zHs BK778.1 0
    have hns132_1 := NB779_778.1
    have hms132_1 := NB778_779.1
    obtain ⟨hs133, hfs133⟩ := zHs BK778.1 1
    have hns133_1 := NB779_778.1
    have hms133_1 := NB778_779.1
    obtain ⟨hs134, hfs134⟩ := zHs BK778.1 2
    have hns134_1 := NB779_778.1
    have hms134_1 := NB778_779.1
    obtain ⟨hs135, hfs135⟩ := zHs BK778.1 3
    have hns135_1 := NB779_778.1
    have hms135_1 := NB778_779.1
    obtain ⟨hs136, hfs136⟩ := zHs BK778.1 4
    have hns136_1 := NB779_778.1
    have hms136_1 := NB778_779.1
    refine skip_ (w1 := ?_) (by rfl) rfl ?_ ?_
    rotate_left
    ·go_simp
     rfl
    have f0_ := zM (Kd.own_blk (Kd.R_ne HO_5.1 BK778.1 (by decide)))
    have f1_ := zM (Kd.own_blk (Kd.R_away HO_4.1 (fun _ hk => hk.1)))
    refine hK.out _ _ zCu fun hHeld => ?_
    clear hK K
    refine zOn 19 none fun K hK => ?_
    obtain ⟨hs137, hfs137⟩ := zHs BK779.1 0
    have hns137_0 := NB778_779.1
    have hms137_0 := NB779_778.1
    obtain ⟨hs138, hfs138⟩ := zHs BK779.1 1
    have hns138_0 := NB778_779.1
    have hms138_0 := NB779_778.1
    obtain ⟨hs139, hfs139⟩ := zHs BK779.1 2
    have hns139_0 := NB778_779.1
    have hms139_0 := NB779_778.1
    obtain ⟨hs140, hfs140⟩ := zHs BK779.1 3
    have hns140_0 := NB778_779.1
    have hms140_0 := NB779_778.1
    obtain ⟨hs141, hfs141⟩ := zHs BK779.1 4
    have hns141_0 := NB778_779.1
    have hms141_0 := NB779_778.1
    refine skip_ (w1 := ?_) (by rfl) rfl ?_ ?_
    rotate_left
    ·go_simp
     rfl
    have f0_ := zM (Kd.own_blk (Kd.R_ne HO_5.1 BK779.1 (by decide)))
    have f1_ := zM (Kd.own_blk (Kd.R_away HO_4.1 (fun _ hk => hk.2)))
    refine hK.out _ _ zCu fun hHeld => ?_
    clear hK K
    refine done_ (done_of HT_.1 (by kernel_rfl)) ?_
    try go_wp2
    generalize hw_ : ((((((((((w131.setCell ⟨gb778, 0, none⟩ (.int .i64 ((rd_T31 t765 ((rd_T44 t768 x7_1).f0)).f0))).setCell ⟨gb778, 1, none⟩ (.int .i64 ((rd_T31 t765 ((rd_T44 t768 x7_1).f0)).f1))).setCell ⟨gb778, 2, none⟩ (.int .i64 ((rd_T31 t765 ((rd_T44 t768 x7_1).f0)).f2))).setCell ⟨gb778, 3, none⟩ (.int .i64 ((rd_T31 t765 ((rd_T44 t768 x7_1).f0)).f3))).setCell ⟨gb778, 4, none⟩ (.int .i64 ((rd_T31 t765 ((rd_T44 t768 x7_1).f0)).f4))).setCell ⟨gb779, 0, none⟩ (.int .i64 ((rd_T31 t765 ((rd_T44 t768 x7_1).f1)).f0))).setCell ⟨gb779, 1, none⟩ (.int .i64 ((rd_T31 t765 ((rd_T44 t768 x7_1).f1)).f1))).setCell ⟨gb779, 2, none⟩ (.int .i64 ((rd_T31 t765 ((rd_T44 t768 x7_1).f1)).f2))).setCell ⟨gb779, 3, none⟩ (.int .i64 ((rd_T31 t765 ((rd_T44 t768 x7_1).f1)).f3))).setCell ⟨gb779, 4, none⟩ (.int .i64 ((rd_T31 t765 ((rd_T44 t768 x7_1).f1)).f4))) = w142
    have n0_ : Aside0 (Kd.R k31 31 w142 w.heap.size (fun k_ => k_ ≠ gb778 ∧ k_ ≠ gb779) (.slice (some ad775) t765.length co9) t765) := ⟨by rw [← hw_]; refine zrR ?_; exact Kd.R_mono (zfR (zfR (zfR (zfR (zfR (zgR (zgR (zgR (zgR (zgR (Kd.R_mono (Kd.R_mono HO_4.1 (fun k_ hk => (⟨hk, hk.1⟩ : _ ∧ k_ ≠ gb778))) (fun k_ hk => (⟨hk, hk.1.2⟩ : _ ∧ k_ ≠ gb779))))))))))))) (fun _ hk => ⟨hk.1.1.1, hk.1.1.2⟩)⟩
    have n1_ : Aside0 (Kd.R k44 44 w142 w.heap.size (fun k_ => some k_ ≠ (.slice Ao13 t771.length co13 : Value).ownBlock) (.slice (some ad774) t768.length co12) t768) := ⟨by rw [← hw_]; refine zrR ?_; exact Kd.R_mono (zfR (zfR (zfR (zfR (zfR (zgR (zgR (zgR (zgR (zgR (Kd.R_types (Kd.R_types HO_5.1 BK778.1 (by decide)) BK779.1 (by decide)))))))))))) (fun _ hk => hk.1.1)⟩
    have n2_ : Aside0 (Kd.R k44 44 w142 w.heap.size (fun k_ => some k_ ≠ (.slice (some ad774) t768.length co12 : Value).ownBlock) (.slice Ao13 t771.length co13) t771) := ⟨by rw [← hw_]; refine zrR ?_; exact Kd.R_mono (zfR (zfR (zfR (zfR (zfR (zgR (zgR (zgR (zgR (zgR (Kd.R_types (Kd.R_types HO_6.1 BK778.1 (by decide)) BK779.1 (by decide)))))))))))) (fun _ hk => hk.1.1)⟩
    have n3_ : Aside0 (w142.heap[gb778]? = some (.cells #[.int .i64 ((rd_T31 t765 ((rd_T44 t768 x7_1).f0)).f0), .int .i64 ((rd_T31 t765 ((rd_T44 t768 x7_1).f0)).f1), .int .i64 ((rd_T31 t765 ((rd_T44 t768 x7_1).f0)).f2), .int .i64 ((rd_T31 t765 ((rd_T44 t768 x7_1).f0)).f3), .int .i64 ((rd_T31 t765 ((rd_T44 t768 x7_1).f0)).f4)] 31 (0, 0))) := ⟨by rw [← hw_]; exact zPq⟩
    have n4_ : Aside0 (w142.heap[gb779]? = some (.cells #[.int .i64 ((rd_T31 t765 ((rd_T44 t768 x7_1).f1)).f0), .int .i64 ((rd_T31 t765 ((rd_T44 t768 x7_1).f1)).f1), .int .i64 ((rd_T31 t765 ((rd_T44 t768 x7_1).f1)).f2), .int .i64 ((rd_T31 t765 ((rd_T44 t768 x7_1).f1)).f3), .int .i64 ((rd_T31 t765 ((rd_T44 t768 x7_1).f1)).f4)] 31 (0, 0))) := ⟨by rw [← hw_]; exact zPq⟩
    have n5_ : Aside0 (Below w.heap.size w w142) := ⟨by rw [← hw_]; exact zB1⟩
    (try clear HO_4)
    (try clear HO_5)
    (try clear HO_6)
    (try clear BK778)
    (try clear BK779)
    (try clear HB)
    clear hw_
    have HO_4 := n0_
    have HO_5 := n1_
    have HO_6 := n2_
    have BK778 := n3_
    have BK779 := n4_
    have HB := n5_
    clear n0_ n1_ n2_ n3_ n4_ n5_
    replace HO_4 := zM (Kd.R_drew HO_4.1)
    replace HO_5 := zM (Kd.R_drew HO_5.1)
    replace HO_6 := zM (Kd.R_drew HO_6.1)
    replace BK778 := zM (blk_drew BK778.1)
    replace BK779 := zM (blk_drew BK779.1)
    replace HB := zM (below_drew1 HB.1)
    obtain ⟨p780, q780, ad780, e780, hx780_0, hx780_1⟩ := zRd (at_T44 (Kd.R_reads' HO_5.1).2.2 x7_1)
    obtain rfl : ad774 = ad780 := (by injection e780)
    obtain ⟨p781, q781, ad781, e781, hx781_0, hx781_1⟩ := zRd (at_T44 (Kd.R_reads' HO_6.1).2.2 x7_1)
    cases e781
    refine start_ (n := 48) (S := zS2_17 gb778 t765 t768 x7_1 gb779 ad774 ad781 t771) (ds := []) zq17_22 (by kernel_rfl) rfl rfl ⟨(blk_cell BK778.1 0).trans rfl, (blk_cell BK778.1 1).trans rfl, (blk_cell BK778.1 2).trans rfl, (blk_cell BK778.1 3).trans rfl, (blk_cell BK778.1 4).trans rfl, (blk_cell BK779.1 0).trans rfl, (blk_cell BK779.1 1).trans rfl, (blk_cell BK779.1 2).trans rfl, (blk_cell BK779.1 3).trans rfl, (blk_cell BK779.1 4).trans rfl, hx780_0, hx780_1, hx781_0, hx781_1⟩ (fun hHeld => ?_); refine with_tabW laws_FnRaces.tab12 laws_FnRaces.bits12 (fun HT_ HW_ => ?_)
    generalize w142.drew = w143 at HO_4 HO_5 HO_6 BK778 BK779 HB hx780_0 hx780_1 hx781_0 hx781_1 hHeld ⊢
    refine zPu 0 ?_
    refine zPu 1 ?_
    refine zPu 2 ?_
    refine zPu 4 ?_
    refine zPu 5 ?_
    refine zPu 6 ?_
    refine zTk14 3 hHeld ?_
    refine zTk14 7 hHeld ?_
    refine zPu 8 ?_
    refine zPu 9 ?_
    refine zPu 10 ?_
    refine zPu 12 ?_
    refine zTk14 11 hHeld ?_
    refine zTk14 13 hHeld ?_
    refine zPu 14 ?_
    refine zPu 15 ?_
    refine zPu 16 ?_
    refine zPn 17 ?_
    refine zPn 18 ?_
    refine zPn 19 ?_
    refine zPn 20 ?_
    refine zPn 21 ?_
    refine zPu 22 ?_
    refine zPu 23 ?_
    refine zPn 24 ?_
    refine zPn 25 ?_
    refine zPn 26 ?_
    refine zPn 27 ?_
    refine zPn 28 ?_
    refine zPn 29 ?_
    refine zPn 30 ?_
    refine zPn 31 ?_
    refine zPn 32 ?_
    refine zPn 33 ?_
    refine zPn 34 ?_
    refine zPn 35 ?_
    refine zPn 36 ?_
    refine zPu 37 ?_
    refine zPu 38 ?_
    refine zPn 39 ?_
    refine zPn 40 ?_
    refine zPn 41 ?_
    refine zPn 42 ?_
    refine zPn 43 ?_
    refine zPn 44 ?_
    refine zPn 45 ?_
    refine zPn 46 ?_
    refine zPu 47 ?_
    refine done_ (done_of HT_.1 (by kernel_rfl)) ?_
    try go_wp2
    go_ret
    exact ⟨zE, zB1⟩
   rw [if_pos c38] at H
   have c38b0 : (((rd_T31 t765 ((rd_T44 t768 x7_1).f0)).f2) == ((rd_T31 t765 ((rd_T44 t768 x7_1).f1)).f2)) = true := beq_iff_eq.mpr c38
   have c38b1 : (((rd_T31 t765 ((rd_T44 t768 x7_1).f0)).f2) != ((rd_T31 t765 ((rd_T44 t768 x7_1).f1)).f2)) = false := bne_eq_false_iff_eq.mpr c38
   clear c38
   by_cases c39 : ((rd_T31 t765 ((rd_T44 t768 x7_1).f0)).f0) = ((rd_T31 t765 ((rd_T44 t768 x7_1).f1)).f0)
   ·rw [if_pos c39] at H
    have c39b0 : (((rd_T31 t765 ((rd_T44 t768 x7_1).f0)).f0) == ((rd_T31 t765 ((rd_T44 t768 x7_1).f1)).f0)) = true := beq_iff_eq.mpr c39
    have c39b1 : (((rd_T31 t765 ((rd_T44 t768 x7_1).f0)).f0) != ((rd_T31 t765 ((rd_T44 t768 x7_1).f1)).f0)) = false := bne_eq_false_iff_eq.mpr c39
    clear c39
    obtain rfl := Option.some.inj H
    try go_wp2
    replace HO_4 := zM (Kd.R_drew HO_4.1)
    replace HO_5 := zM (Kd.R_drew HO_5.1)
    replace HO_6 := zM (Kd.R_drew HO_6.1)
    replace HB := zM (below_drew1 HB.1)
    obtain ⟨p774, q774, ad774, e774, hx774_0, hx774_1⟩ := zRd (at_T44 (Kd.R_reads' HO_5.1).2.2 x7_1)
    cases e774
    obtain ⟨p775, q775, ad775, e775, hx775_0, hx775_1, hx775_2, hx775_3, hx775_4⟩ := zRd (at_T31 (Kd.R_reads' HO_4.1).2.2 ((rd_T44 t768 x7_1).f0))
    cases e775
    obtain ⟨p776, q776, ad776, e776, hx776_0, hx776_1⟩ := zRd (at_T44 (Kd.R_reads' HO_5.1).2.2 x7_1)
    obtain rfl : ad774 = ad776 := (by injection e776)
    obtain ⟨p777, q777, ad777, e777, hx777_0, hx777_1, hx777_2, hx777_3, hx777_4⟩ := zRd (at_T31 (Kd.R_reads' HO_4.1).2.2 ((rd_T44 t768 x7_1).f1))
    obtain rfl : ad775 = ad777 := (by injection e777)
    refine start_ (n := 20) (S := zS1_17 ad774 x7_1 t768 ad775 t765) (ds := []) zq17_0 (by kernel_rfl) rfl rfl ⟨hx774_0, hx774_1, hx775_0, hx775_1, hx775_2, hx775_3, hx775_4, hx776_0, hx776_1, hx777_0, hx777_1, hx777_2, hx777_3, hx777_4⟩ (fun hHeld => ?_); refine with_tabW laws_FnRaces.tab11 laws_FnRaces.bits11 (fun HT_ HW_ => ?_)
    generalize wr.drew = w40 at HO_4 HO_5 HO_6 HB hx774_0 hx774_1 hx775_0 hx775_1 hx775_2 hx775_3 hx775_4 hx776_0 hx776_1 hx777_0 hx777_1 hx777_2 hx777_3 hx777_4 hHeld ⊢
    refine zPu 0 ?_
    refine zPu 1 ?_
    refine zPu 2 ?_
    refine zPu 3 ?_
    refine zPu 4 ?_
    refine zPu 8 ?_
    refine zPu 9 ?_
    refine zPu 10 ?_
    refine zPu 11 ?_
    refine zPu 12 ?_
    refine zTk14 5 hHeld ?_
    refine zPu 6 ?_
    refine zTk14 7 hHeld ?_
    refine zTk14 13 hHeld ?_
    refine zPu 14 ?_
    refine zTk14 15 hHeld ?_
    refine join_ (σ := Nat × Nat) 2 zq17_17 (fun s_ => [(8, .pointer (some ⟨s_.1, 0, none⟩)), (9, .pointer (some ⟨s_.2, 0, none⟩))]) (fun s_ w' => (zS1_17 ad774 x7_1 t768 ad775 t765 w') ∧ (Kd.R k31 31 w' w.heap.size (fun k_ => k_ ≠ s_.1 ∧ k_ ≠ s_.2) (.slice (some ad775) t765.length co9) t765) ∧ (Kd.R k44 44 w' w.heap.size (fun k_ => some k_ ≠ (.slice Ao13 t771.length co13 : Value).ownBlock) (.slice (some ad774) t768.length co12) t768) ∧ (Kd.R k44 44 w' w.heap.size (fun k_ => some k_ ≠ (.slice (some ad774) t768.length co12 : Value).ownBlock) (.slice Ao13 t771.length co13) t771) ∧ (w'.heap[s_.1]? = some (.cells #[.int .i64 0, .int .i64 0, .int .i64 0, .int .i64 0, .int .i64 0] 31 (0, 0))) ∧ (w'.heap[s_.2]? = some (.cells #[.int .i64 0, .int .i64 0, .int .i64 0, .int .i64 0, .int .i64 0] 31 (0, 0))) ∧ (w.heap.size ≤ s_.1) ∧ (w.heap.size ≤ s_.1) ∧ (s_.2 ≠ s_.1) ∧ (s_.1 ≠ s_.2) ∧ (w.heap.size ≤ s_.2) ∧ (w.heap.size ≤ s_.2) ∧ (Below w.heap.size w w')) ?_ ?_
    rotate_left
    ·intro hCont
     refine two_ (i := 16) (j := 17) (Ni := some 8) (Nj := some 9) zq17_18 zq17_19 rfl rfl rfl rfl (two_of HT_.1 (by kernel_rfl)) (by decide) (by decide) (fun K hK => ?_) (fun K hK => ?_)
     ·refine zBs 8 31 #[.int .i64 0, .int .i64 0, .int .i64 0, .int .i64 0, .int .i64 0] ?_
      intro gb778 hg w41 hbox hb
      replace HO_4 := zM (Kd.R_below (Kd.R_elderB (zR HO_4.1) gb778 (Nat.le_of_eq hg.symm)) hb)
      replace HO_5 := zM (Kd.R_below (zR HO_5.1) hb)
      replace HO_6 := zM (Kd.R_below (zR HO_6.1) hb)
      replace BK778 := zM hbox
      replace GW778 := zM (zW hg (below_size zB1))
      replace GE778 := zM (zW hg (below_size zB1))
      replace HB := zM (below_step zB1 hb)
      refine hK.out _ _ zCs fun hHeld => ?_
      clear hK K
      refine zNo ?_
      refine zOn 17 (some 9) fun K hK => ?_
      refine zBs 9 31 #[.int .i64 0, .int .i64 0, .int .i64 0, .int .i64 0, .int .i64 0] ?_
      intro gb779 hg w42 hbox hb
      replace HO_4 := zM (Kd.R_below (Kd.R_elderB (zR HO_4.1) gb779 (Nat.le_of_eq hg.symm)) hb)
      replace HO_5 := zM (Kd.R_below (zR HO_5.1) hb)
      replace HO_6 := zM (Kd.R_below (zR HO_6.1) hb)
      replace BK779 := zM hbox
      replace GW779 := zM (zW hg (below_size zB1))
      replace GE779 := zM (zW hg (below_size zB1))
      replace HB := zM (below_step zB1 hb)
      replace NB778_779 := zM ((zn BK778.1 hg : gb778 ≠ gb779))
      replace NB779_778 := zM ((zm BK778.1 hg : gb779 ≠ gb778))
      replace BK778 := zM (zb BK778.1 hb)
      refine hK.out _ _ zCs fun hHeld => ?_
      clear hK K
      refine zNo ?_
      exact norm_ zNr (hCont (gb778, gb779) _ ⟨hHeld, (by refine zrR ?_; exact Kd.R_mono HO_4.1 (fun _ hk => ⟨hk.1.2, hk.2⟩)), (zR HO_5.1), (zR HO_6.1), (zK BK778.1), (zK BK779.1), GW778.1, GE778.1, NB779_778.1, NB778_779.1, GW779.1, GE779.1, zB1⟩)
     ·refine zBs 9 31 #[.int .i64 0, .int .i64 0, .int .i64 0, .int .i64 0, .int .i64 0] ?_
      intro gb779 hg w41 hbox hb
      replace HO_4 := zM (Kd.R_below (Kd.R_elderB (zR HO_4.1) gb779 (Nat.le_of_eq hg.symm)) hb)
      replace HO_5 := zM (Kd.R_below (zR HO_5.1) hb)
      replace HO_6 := zM (Kd.R_below (zR HO_6.1) hb)
      replace BK779 := zM hbox
      replace GW779 := zM (zW hg (below_size zB1))
      replace GE779 := zM (zW hg (below_size zB1))
      replace HB := zM (below_step zB1 hb)
      refine hK.out _ _ zCs fun hHeld => ?_
      clear hK K
      refine zNo ?_
      refine zOn 16 (some 8) fun K hK => ?_
      refine zBs 8 31 #[.int .i64 0, .int .i64 0, .int .i64 0, .int .i64 0, .int .i64 0] ?_
      intro gb778 hg w42 hbox hb
      replace HO_4 := zM (Kd.R_below (Kd.R_elderB (zR HO_4.1) gb778 (Nat.le_of_eq hg.symm)) hb)
      replace HO_5 := zM (Kd.R_below (zR HO_5.1) hb)
      replace HO_6 := zM (Kd.R_below (zR HO_6.1) hb)
      replace BK778 := zM hbox
      replace GW778 := zM (zW hg (below_size zB1))
      replace GE778 := zM (zW hg (below_size zB1))
      replace HB := zM (below_step zB1 hb)
      replace NB779_778 := zM ((zn BK779.1 hg : gb779 ≠ gb778))
      replace NB778_779 := zM ((zm BK779.1 hg : gb778 ≠ gb779))
      replace BK779 := zM (zb BK779.1 hb)
      refine hK.out _ _ zCs fun hHeld => ?_
      clear hK K
      refine zNo ?_
      exact norm_ zNr (hCont (gb778, gb779) _ ⟨hHeld, (by refine zrR ?_; exact Kd.R_mono HO_4.1 (fun _ hk => ⟨hk.2, hk.1.2⟩)), (zR HO_5.1), (zR HO_6.1), (zK BK778.1), (zK BK779.1), GW778.1, GE778.1, NB779_778.1, NB778_779.1, GW779.1, GE779.1, zB1⟩)
    rintro ⟨gb778, gb779⟩ w43 ⟨hS_, h0_, h1_, h2_, h3_, h4_, h5_, h6_, h7_, h8_, h9_, h10_, h11_⟩
    replace HO_4 := zM h0_
    replace HO_5 := zM h1_
    replace HO_6 := zM h2_
    replace BK778 := zM h3_
    replace BK779 := zM h4_
    replace GW778 := zM h5_
    replace GE778 := zM h6_
    replace NB779_778 := zM h7_
    replace NB778_779 := zM h8_
    replace GW779 := zM h9_
    replace GE779 := zM h10_
    replace HB := zM h11_
    have hHeld := hS_
    refine zNp ?_
    refine zOn 18 none fun K hK => ?_
    obtain ⟨hs44, hfs44⟩ := zHs BK778.1 0
    have hns44_1 := NB779_778.1
    have hms44_1 := NB778_779.1
    obtain ⟨hs45, hfs45⟩ := zHs BK778.1 1
    have hns45_1 := NB779_778.1
    have hms45_1 := NB778_779.1
    obtain ⟨hs46, hfs46⟩ := zHs BK778.1 2
    have hns46_1 := NB779_778.1
    have hms46_1 := NB778_779.1
    obtain ⟨hs47, hfs47⟩ := zHs BK778.1 3
    have hns47_1 := NB779_778.1
    have hms47_1 := NB778_779.1
    obtain ⟨hs48, hfs48⟩ := zHs BK778.1 4
    have hns48_1 := NB779_778.1
    have hms48_1 := NB778_779.1
    refine skip_ (w1 := ?_) (by rfl) rfl ?_ ?_
    rotate_left
    ·go_simp
     rfl
    have f0_ := zM (Kd.own_blk (Kd.R_ne HO_5.1 BK778.1 (by decide)))
    have f1_ := zM (Kd.own_blk (Kd.R_away HO_4.1 (fun _ hk => hk.1)))
    refine hK.out _ _ zCu fun hHeld => ?_
    clear hK K
    refine zOn 19 none fun K hK => ?_
    obtain ⟨hs49, hfs49⟩ := zHs BK779.1 0
    have hns49_0 := NB778_779.1
    have hms49_0 := NB779_778.1
    obtain ⟨hs50, hfs50⟩ := zHs BK779.1 1
    have hns50_0 := NB778_779.1
    have hms50_0 := NB779_778.1
    obtain ⟨hs51, hfs51⟩ := zHs BK779.1 2
    have hns51_0 := NB778_779.1
    have hms51_0 := NB779_778.1
    obtain ⟨hs52, hfs52⟩ := zHs BK779.1 3
    have hns52_0 := NB778_779.1
    have hms52_0 := NB779_778.1
    obtain ⟨hs53, hfs53⟩ := zHs BK779.1 4
    have hns53_0 := NB778_779.1
    have hms53_0 := NB779_778.1
    refine skip_ (w1 := ?_) (by rfl) rfl ?_ ?_
    rotate_left
    ·go_simp
     rfl
    have f0_ := zM (Kd.own_blk (Kd.R_ne HO_5.1 BK779.1 (by decide)))
    have f1_ := zM (Kd.own_blk (Kd.R_away HO_4.1 (fun _ hk => hk.2)))
    refine hK.out _ _ zCu fun hHeld => ?_
    clear hK K
    refine done_ (done_of HT_.1 (by kernel_rfl)) ?_
    try go_wp2
    generalize hw_ : ((((((((((w43.setCell ⟨gb778, 0, none⟩ (.int .i64 ((rd_T31 t765 ((rd_T44 t768 x7_1).f0)).f0))).setCell ⟨gb778, 1, none⟩ (.int .i64 ((rd_T31 t765 ((rd_T44 t768 x7_1).f0)).f1))).setCell ⟨gb778, 2, none⟩ (.int .i64 ((rd_T31 t765 ((rd_T44 t768 x7_1).f0)).f2))).setCell ⟨gb778, 3, none⟩ (.int .i64 ((rd_T31 t765 ((rd_T44 t768 x7_1).f0)).f3))).setCell ⟨gb778, 4, none⟩ (.int .i64 ((rd_T31 t765 ((rd_T44 t768 x7_1).f0)).f4))).setCell ⟨gb779, 0, none⟩ (.int .i64 ((rd_T31 t765 ((rd_T44 t768 x7_1).f1)).f0))).setCell ⟨gb779, 1, none⟩ (.int .i64 ((rd_T31 t765 ((rd_T44 t768 x7_1).f1)).f1))).setCell ⟨gb779, 2, none⟩ (.int .i64 ((rd_T31 t765 ((rd_T44 t768 x7_1).f1)).f2))).setCell ⟨gb779, 3, none⟩ (.int .i64 ((rd_T31 t765 ((rd_T44 t768 x7_1).f1)).f3))).setCell ⟨gb779, 4, none⟩ (.int .i64 ((rd_T31 t765 ((rd_T44 t768 x7_1).f1)).f4))) = w54
    have n0_ : Aside0 (Kd.R k31 31 w54 w.heap.size (fun k_ => k_ ≠ gb778 ∧ k_ ≠ gb779) (.slice (some ad775) t765.length co9) t765) := ⟨by rw [← hw_]; refine zrR ?_; exact Kd.R_mono (zfR (zfR (zfR (zfR (zfR (zgR (zgR (zgR (zgR (zgR (Kd.R_mono (Kd.R_mono HO_4.1 (fun k_ hk => (⟨hk, hk.1⟩ : _ ∧ k_ ≠ gb778))) (fun k_ hk => (⟨hk, hk.1.2⟩ : _ ∧ k_ ≠ gb779))))))))))))) (fun _ hk => ⟨hk.1.1.1, hk.1.1.2⟩)⟩
    have n1_ : Aside0 (Kd.R k44 44 w54 w.heap.size (fun k_ => some k_ ≠ (.slice Ao13 t771.length co13 : Value).ownBlock) (.slice (some ad774) t768.length co12) t768) := ⟨by rw [← hw_]; refine zrR ?_; exact Kd.R_mono (zfR (zfR (zfR (zfR (zfR (zgR (zgR (zgR (zgR (zgR (Kd.R_types (Kd.R_types HO_5.1 BK778.1 (by decide)) BK779.1 (by decide)))))))))))) (fun _ hk => hk.1.1)⟩
    have n2_ : Aside0 (Kd.R k44 44 w54 w.heap.size (fun k_ => some k_ ≠ (.slice (some ad774) t768.length co12 : Value).ownBlock) (.slice Ao13 t771.length co13) t771) := ⟨by rw [← hw_]; refine zrR ?_; exact Kd.R_mono (zfR (zfR (zfR (zfR (zfR (zgR (zgR (zgR (zgR (zgR (Kd.R_types (Kd.R_types HO_6.1 BK778.1 (by decide)) BK779.1 (by decide)))))))))))) (fun _ hk => hk.1.1)⟩
    have n3_ : Aside0 (w54.heap[gb778]? = some (.cells #[.int .i64 ((rd_T31 t765 ((rd_T44 t768 x7_1).f0)).f0), .int .i64 ((rd_T31 t765 ((rd_T44 t768 x7_1).f0)).f1), .int .i64 ((rd_T31 t765 ((rd_T44 t768 x7_1).f0)).f2), .int .i64 ((rd_T31 t765 ((rd_T44 t768 x7_1).f0)).f3), .int .i64 ((rd_T31 t765 ((rd_T44 t768 x7_1).f0)).f4)] 31 (0, 0))) := ⟨by rw [← hw_]; exact zPq⟩
    have n4_ : Aside0 (w54.heap[gb779]? = some (.cells #[.int .i64 ((rd_T31 t765 ((rd_T44 t768 x7_1).f1)).f0), .int .i64 ((rd_T31 t765 ((rd_T44 t768 x7_1).f1)).f1), .int .i64 ((rd_T31 t765 ((rd_T44 t768 x7_1).f1)).f2), .int .i64 ((rd_T31 t765 ((rd_T44 t768 x7_1).f1)).f3), .int .i64 ((rd_T31 t765 ((rd_T44 t768 x7_1).f1)).f4)] 31 (0, 0))) := ⟨by rw [← hw_]; exact zPq⟩
    have n5_ : Aside0 (Below w.heap.size w w54) := ⟨by rw [← hw_]; exact zB1⟩
    (try clear HO_4)
    (try clear HO_5)
    (try clear HO_6)
    (try clear BK778)
    (try clear BK779)
    (try clear HB)
    clear hw_
    have HO_4 := n0_
    have HO_5 := n1_
    have HO_6 := n2_
    have BK778 := n3_
    have BK779 := n4_
    have HB := n5_
    clear n0_ n1_ n2_ n3_ n4_ n5_
    replace HO_4 := zM (Kd.R_drew HO_4.1)
    replace HO_5 := zM (Kd.R_drew HO_5.1)
    replace HO_6 := zM (Kd.R_drew HO_6.1)
    replace BK778 := zM (blk_drew BK778.1)
    replace BK779 := zM (blk_drew BK779.1)
    replace HB := zM (below_drew1 HB.1)
    obtain ⟨p780, q780, ad780, e780, hx780_0, hx780_1⟩ := zRd (at_T44 (Kd.R_reads' HO_5.1).2.2 x7_1)
    obtain rfl : ad774 = ad780 := (by injection e780)
    obtain ⟨p781, q781, ad781, e781, hx781_0, hx781_1⟩ := zRd (at_T44 (Kd.R_reads' HO_6.1).2.2 x7_1)
    cases e781
    refine start_ (n := 48) (S := zS2_17 gb778 t765 t768 x7_1 gb779 ad774 ad781 t771) (ds := []) zq17_22 (by kernel_rfl) rfl rfl ⟨(blk_cell BK778.1 0).trans rfl, (blk_cell BK778.1 1).trans rfl, (blk_cell BK778.1 2).trans rfl, (blk_cell BK778.1 3).trans rfl, (blk_cell BK778.1 4).trans rfl, (blk_cell BK779.1 0).trans rfl, (blk_cell BK779.1 1).trans rfl, (blk_cell BK779.1 2).trans rfl, (blk_cell BK779.1 3).trans rfl, (blk_cell BK779.1 4).trans rfl, hx780_0, hx780_1, hx781_0, hx781_1⟩ (fun hHeld => ?_); refine with_tabW laws_FnRaces.tab12 laws_FnRaces.bits12 (fun HT_ HW_ => ?_)
    generalize w54.drew = w55 at HO_4 HO_5 HO_6 BK778 BK779 HB hx780_0 hx780_1 hx781_0 hx781_1 hHeld ⊢
    refine zPu 0 ?_
    refine zPu 1 ?_
    refine zPu 2 ?_
    refine zPu 4 ?_
    refine zPu 5 ?_
    refine zPu 6 ?_
    refine zTk14 3 hHeld ?_
    refine zTk14 7 hHeld ?_
    refine zPu 8 ?_
    refine zPu 9 ?_
    refine zPu 10 ?_
    refine zPu 12 ?_
    refine zTk14 11 hHeld ?_
    refine zTk14 13 hHeld ?_
    refine zPu 14 ?_
    refine zPu 15 ?_
    refine zPu 16 ?_
    refine zPu 17 ?_
    refine zPu 19 ?_
    refine zTk14 18 hHeld ?_
    refine zTk14 20 hHeld ?_
    refine zPu 21 ?_
    refine zPu 22 ?_
    refine zPu 23 ?_
    refine zPn 24 ?_
    refine zPn 25 ?_
    refine zPn 26 ?_
    refine zPn 27 ?_
    refine zPn 28 ?_
    refine zPn 29 ?_
    refine zPn 30 ?_
    refine zPn 31 ?_
    refine zPn 32 ?_
    refine zPn 33 ?_
    refine zPn 34 ?_
    refine zPn 35 ?_
    refine zPn 36 ?_
    refine zPu 37 ?_
    refine zPu 38 ?_
    refine zPn 39 ?_
    refine zPn 40 ?_
    refine zPn 41 ?_
    refine zPn 42 ?_
    refine zPn 43 ?_
    refine zPn 44 ?_
    refine zPn 45 ?_
    refine zPn 46 ?_
    refine zPu 47 ?_
    refine done_ (done_of HT_.1 (by kernel_rfl)) ?_
    try go_wp2
    go_ret
    exact ⟨zE, zB1⟩
   rw [if_neg c39] at H
   have c39b0 : (((rd_T31 t765 ((rd_T44 t768 x7_1).f0)).f0) == ((rd_T31 t765 ((rd_T44 t768 x7_1).f1)).f0)) = false := beq_eq_false_iff_ne.mpr c39
   have c39b1 : (((rd_T31 t765 ((rd_T44 t768 x7_1).f0)).f0) != ((rd_T31 t765 ((rd_T44 t768 x7_1).f1)).f0)) = true := bne_iff_ne.mpr c39
   replace H := zO H
   obtain ⟨t784, A56, H⟩ := H
   by_cases c57 : t784 = true
   ·subst c57
    rw [if_pos rfl] at H
    obtain rfl := Option.some.inj H
    try go_wp2
    replace HO_4 := zM (Kd.R_drew HO_4.1)
    replace HO_5 := zM (Kd.R_drew HO_5.1)
    replace HO_6 := zM (Kd.R_drew HO_6.1)
    replace HB := zM (below_drew1 HB.1)
    obtain ⟨p774, q774, ad774, e774, hx774_0, hx774_1⟩ := zRd (at_T44 (Kd.R_reads' HO_5.1).2.2 x7_1)
    cases e774
    obtain ⟨p775, q775, ad775, e775, hx775_0, hx775_1, hx775_2, hx775_3, hx775_4⟩ := zRd (at_T31 (Kd.R_reads' HO_4.1).2.2 ((rd_T44 t768 x7_1).f0))
    cases e775
    obtain ⟨p776, q776, ad776, e776, hx776_0, hx776_1⟩ := zRd (at_T44 (Kd.R_reads' HO_5.1).2.2 x7_1)
    obtain rfl : ad774 = ad776 := (by injection e776)
    obtain ⟨p777, q777, ad777, e777, hx777_0, hx777_1, hx777_2, hx777_3, hx777_4⟩ := zRd (at_T31 (Kd.R_reads' HO_4.1).2.2 ((rd_T44 t768 x7_1).f1))
    obtain rfl : ad775 = ad777 := (by injection e777)
    refine start_ (n := 20) (S := zS1_17 ad774 x7_1 t768 ad775 t765) (ds := []) zq17_0 (by kernel_rfl) rfl rfl ⟨hx774_0, hx774_1, hx775_0, hx775_1, hx775_2, hx775_3, hx775_4, hx776_0, hx776_1, hx777_0, hx777_1, hx777_2, hx777_3, hx777_4⟩ (fun hHeld => ?_); refine with_tabW laws_FnRaces.tab11 laws_FnRaces.bits11 (fun HT_ HW_ => ?_)
    generalize wr.drew = w58 at HO_4 HO_5 HO_6 HB hx774_0 hx774_1 hx775_0 hx775_1 hx775_2 hx775_3 hx775_4 hx776_0 hx776_1 hx777_0 hx777_1 hx777_2 hx777_3 hx777_4 hHeld ⊢
    refine zPu 0 ?_
    refine zPu 1 ?_
    refine zPu 2 ?_
    refine zPu 3 ?_
    refine zPu 4 ?_
    refine zPu 8 ?_
    refine zPu 9 ?_
    refine zPu 10 ?_
    refine zPu 11 ?_
    refine zPu 12 ?_
    refine zTk14 5 hHeld ?_
    refine zPu 6 ?_
    refine zTk14 7 hHeld ?_
    refine zTk14 13 hHeld ?_
    refine zPu 14 ?_
    refine zTk14 15 hHeld ?_
    refine join_ (σ := Nat × Nat) 2 zq17_17 (fun s_ => [(8, .pointer (some ⟨s_.1, 0, none⟩)), (9, .pointer (some ⟨s_.2, 0, none⟩))]) (fun s_ w' => (zS1_17 ad774 x7_1 t768 ad775 t765 w') ∧ (Kd.R k31 31 w' w.heap.size (fun k_ => k_ ≠ s_.1 ∧ k_ ≠ s_.2) (.slice (some ad775) t765.length co9) t765) ∧ (Kd.R k44 44 w' w.heap.size (fun k_ => some k_ ≠ (.slice Ao13 t771.length co13 : Value).ownBlock) (.slice (some ad774) t768.length co12) t768) ∧ (Kd.R k44 44 w' w.heap.size (fun k_ => some k_ ≠ (.slice (some ad774) t768.length co12 : Value).ownBlock) (.slice Ao13 t771.length co13) t771) ∧ (w'.heap[s_.1]? = some (.cells #[.int .i64 0, .int .i64 0, .int .i64 0, .int .i64 0, .int .i64 0] 31 (0, 0))) ∧ (w'.heap[s_.2]? = some (.cells #[.int .i64 0, .int .i64 0, .int .i64 0, .int .i64 0, .int .i64 0] 31 (0, 0))) ∧ (w.heap.size ≤ s_.1) ∧ (w.heap.size ≤ s_.1) ∧ (s_.2 ≠ s_.1) ∧ (s_.1 ≠ s_.2) ∧ (w.heap.size ≤ s_.2) ∧ (w.heap.size ≤ s_.2) ∧ (Below w.heap.size w w')) ?_ ?_
    rotate_left
    ·intro hCont
     refine two_ (i := 16) (j := 17) (Ni := some 8) (Nj := some 9) zq17_18 zq17_19 rfl rfl rfl rfl (two_of HT_.1 (by kernel_rfl)) (by decide) (by decide) (fun K hK => ?_) (fun K hK => ?_)
     ·refine zBs 8 31 #[.int .i64 0, .int .i64 0, .int .i64 0, .int .i64 0, .int .i64 0] ?_
      intro gb778 hg w59 hbox hb
      replace HO_4 := zM (Kd.R_below (Kd.R_elderB (zR HO_4.1) gb778 (Nat.le_of_eq hg.symm)) hb)
      replace HO_5 := zM (Kd.R_below (zR HO_5.1) hb)
      replace HO_6 := zM (Kd.R_below (zR HO_6.1) hb)
      replace BK778 := zM hbox
      replace GW778 := zM (zW hg (below_size zB1))
      replace GE778 := zM (zW hg (below_size zB1))
      replace HB := zM (below_step zB1 hb)
      refine hK.out _ _ zCs fun hHeld => ?_
      clear hK K
      refine zNo ?_
      refine zOn 17 (some 9) fun K hK => ?_
      refine zBs 9 31 #[.int .i64 0, .int .i64 0, .int .i64 0, .int .i64 0, .int .i64 0] ?_
      intro gb779 hg w60 hbox hb
      replace HO_4 := zM (Kd.R_below (Kd.R_elderB (zR HO_4.1) gb779 (Nat.le_of_eq hg.symm)) hb)
      replace HO_5 := zM (Kd.R_below (zR HO_5.1) hb)
      replace HO_6 := zM (Kd.R_below (zR HO_6.1) hb)
      replace BK779 := zM hbox
      replace GW779 := zM (zW hg (below_size zB1))
      replace GE779 := zM (zW hg (below_size zB1))
      replace HB := zM (below_step zB1 hb)
      replace NB778_779 := zM ((zn BK778.1 hg : gb778 ≠ gb779))
      replace NB779_778 := zM ((zm BK778.1 hg : gb779 ≠ gb778))
      replace BK778 := zM (zb BK778.1 hb)
      refine hK.out _ _ zCs fun hHeld => ?_
      clear hK K
      refine zNo ?_
      exact norm_ zNr (hCont (gb778, gb779) _ ⟨hHeld, (by refine zrR ?_; exact Kd.R_mono HO_4.1 (fun _ hk => ⟨hk.1.2, hk.2⟩)), (zR HO_5.1), (zR HO_6.1), (zK BK778.1), (zK BK779.1), GW778.1, GE778.1, NB779_778.1, NB778_779.1, GW779.1, GE779.1, zB1⟩)
     ·refine zBs 9 31 #[.int .i64 0, .int .i64 0, .int .i64 0, .int .i64 0, .int .i64 0] ?_
      intro gb779 hg w59 hbox hb
      replace HO_4 := zM (Kd.R_below (Kd.R_elderB (zR HO_4.1) gb779 (Nat.le_of_eq hg.symm)) hb)
      replace HO_5 := zM (Kd.R_below (zR HO_5.1) hb)
      replace HO_6 := zM (Kd.R_below (zR HO_6.1) hb)
      replace BK779 := zM hbox
      replace GW779 := zM (zW hg (below_size zB1))
      replace GE779 := zM (zW hg (below_size zB1))
      replace HB := zM (below_step zB1 hb)
      refine hK.out _ _ zCs fun hHeld => ?_
      clear hK K
      refine zNo ?_
      refine zOn 16 (some 8) fun K hK => ?_
      refine zBs 8 31 #[.int .i64 0, .int .i64 0, .int .i64 0, .int .i64 0, .int .i64 0] ?_
      intro gb778 hg w60 hbox hb
      replace HO_4 := zM (Kd.R_below (Kd.R_elderB (zR HO_4.1) gb778 (Nat.le_of_eq hg.symm)) hb)
      replace HO_5 := zM (Kd.R_below (zR HO_5.1) hb)
      replace HO_6 := zM (Kd.R_below (zR HO_6.1) hb)
      replace BK778 := zM hbox
      replace GW778 := zM (zW hg (below_size zB1))
      replace GE778 := zM (zW hg (below_size zB1))
      replace HB := zM (below_step zB1 hb)
      replace NB779_778 := zM ((zn BK779.1 hg : gb779 ≠ gb778))
      replace NB778_779 := zM ((zm BK779.1 hg : gb778 ≠ gb779))
      replace BK779 := zM (zb BK779.1 hb)
      refine hK.out _ _ zCs fun hHeld => ?_
      clear hK K
      refine zNo ?_
      exact norm_ zNr (hCont (gb778, gb779) _ ⟨hHeld, (by refine zrR ?_; exact Kd.R_mono HO_4.1 (fun _ hk => ⟨hk.2, hk.1.2⟩)), (zR HO_5.1), (zR HO_6.1), (zK BK778.1), (zK BK779.1), GW778.1, GE778.1, NB779_778.1, NB778_779.1, GW779.1, GE779.1, zB1⟩)
    rintro ⟨gb778, gb779⟩ w61 ⟨hS_, h0_, h1_, h2_, h3_, h4_, h5_, h6_, h7_, h8_, h9_, h10_, h11_⟩
    replace HO_4 := zM h0_
    replace HO_5 := zM h1_
    replace HO_6 := zM h2_
    replace BK778 := zM h3_
    replace BK779 := zM h4_
    replace GW778 := zM h5_
    replace GE778 := zM h6_
    replace NB779_778 := zM h7_
    replace NB778_779 := zM h8_
    replace GW779 := zM h9_
    replace GE779 := zM h10_
    replace HB := zM h11_
    have hHeld := hS_
    refine zNp ?_
    refine zOn 18 none fun K hK => ?_
    obtain ⟨hs62, hfs62⟩ := zHs BK778.1 0
    have hns62_1 := NB779_778.1
    have hms62_1 := NB778_779.1
    obtain ⟨hs63, hfs63⟩ := zHs BK778.1 1
    have hns63_1 := NB779_778.1
    have hms63_1 := NB778_779.1
    obtain ⟨hs64, hfs64⟩ := zHs BK778.1 2
    have hns64_1 := NB779_778.1
    have hms64_1 := NB778_779.1
    obtain ⟨hs65, hfs65⟩ := zHs BK778.1 3
    have hns65_1 := NB779_778.1
    have hms65_1 := NB778_779.1
    obtain ⟨hs66, hfs66⟩ := zHs BK778.1 4
    have hns66_1 := NB779_778.1
    have hms66_1 := NB778_779.1
    refine skip_ (w1 := ?_) (by rfl) rfl ?_ ?_
    rotate_left
    ·go_simp
     rfl
    have f0_ := zM (Kd.own_blk (Kd.R_ne HO_5.1 BK778.1 (by decide)))
    have f1_ := zM (Kd.own_blk (Kd.R_away HO_4.1 (fun _ hk => hk.1)))
    refine hK.out _ _ zCu fun hHeld => ?_
    clear hK K
    refine zOn 19 none fun K hK => ?_
    obtain ⟨hs67, hfs67⟩ := zHs BK779.1 0
    have hns67_0 := NB778_779.1
    have hms67_0 := NB779_778.1
    obtain ⟨hs68, hfs68⟩ := zHs BK779.1 1
    have hns68_0 := NB778_779.1
    have hms68_0 := NB779_778.1
    obtain ⟨hs69, hfs69⟩ := zHs BK779.1 2
    have hns69_0 := NB778_779.1
    have hms69_0 := NB779_778.1
    obtain ⟨hs70, hfs70⟩ := zHs BK779.1 3
    have hns70_0 := NB778_779.1
    have hms70_0 := NB779_778.1
    obtain ⟨hs71, hfs71⟩ := zHs BK779.1 4
    have hns71_0 := NB778_779.1
    have hms71_0 := NB779_778.1
    refine skip_ (w1 := ?_) (by rfl) rfl ?_ ?_
    rotate_left
    ·go_simp
     rfl
    have f0_ := zM (Kd.own_blk (Kd.R_ne HO_5.1 BK779.1 (by decide)))
    have f1_ := zM (Kd.own_blk (Kd.R_away HO_4.1 (fun _ hk => hk.2)))
    refine hK.out _ _ zCu fun hHeld => ?_
    clear hK K
    refine done_ (done_of HT_.1 (by kernel_rfl)) ?_
    try go_wp2
    generalize hw_ : ((((((((((w61.setCell ⟨gb778, 0, none⟩ (.int .i64 ((rd_T31 t765 ((rd_T44 t768 x7_1).f0)).f0))).setCell ⟨gb778, 1, none⟩ (.int .i64 ((rd_T31 t765 ((rd_T44 t768 x7_1).f0)).f1))).setCell ⟨gb778, 2, none⟩ (.int .i64 ((rd_T31 t765 ((rd_T44 t768 x7_1).f0)).f2))).setCell ⟨gb778, 3, none⟩ (.int .i64 ((rd_T31 t765 ((rd_T44 t768 x7_1).f0)).f3))).setCell ⟨gb778, 4, none⟩ (.int .i64 ((rd_T31 t765 ((rd_T44 t768 x7_1).f0)).f4))).setCell ⟨gb779, 0, none⟩ (.int .i64 ((rd_T31 t765 ((rd_T44 t768 x7_1).f1)).f0))).setCell ⟨gb779, 1, none⟩ (.int .i64 ((rd_T31 t765 ((rd_T44 t768 x7_1).f1)).f1))).setCell ⟨gb779, 2, none⟩ (.int .i64 ((rd_T31 t765 ((rd_T44 t768 x7_1).f1)).f2))).setCell ⟨gb779, 3, none⟩ (.int .i64 ((rd_T31 t765 ((rd_T44 t768 x7_1).f1)).f3))).setCell ⟨gb779, 4, none⟩ (.int .i64 ((rd_T31 t765 ((rd_T44 t768 x7_1).f1)).f4))) = w72
    have n0_ : Aside0 (Kd.R k31 31 w72 w.heap.size (fun k_ => k_ ≠ gb778 ∧ k_ ≠ gb779) (.slice (some ad775) t765.length co9) t765) := ⟨by rw [← hw_]; refine zrR ?_; exact Kd.R_mono (zfR (zfR (zfR (zfR (zfR (zgR (zgR (zgR (zgR (zgR (Kd.R_mono (Kd.R_mono HO_4.1 (fun k_ hk => (⟨hk, hk.1⟩ : _ ∧ k_ ≠ gb778))) (fun k_ hk => (⟨hk, hk.1.2⟩ : _ ∧ k_ ≠ gb779))))))))))))) (fun _ hk => ⟨hk.1.1.1, hk.1.1.2⟩)⟩
    have n1_ : Aside0 (Kd.R k44 44 w72 w.heap.size (fun k_ => some k_ ≠ (.slice Ao13 t771.length co13 : Value).ownBlock) (.slice (some ad774) t768.length co12) t768) := ⟨by rw [← hw_]; refine zrR ?_; exact Kd.R_mono (zfR (zfR (zfR (zfR (zfR (zgR (zgR (zgR (zgR (zgR (Kd.R_types (Kd.R_types HO_5.1 BK778.1 (by decide)) BK779.1 (by decide)))))))))))) (fun _ hk => hk.1.1)⟩
    have n2_ : Aside0 (Kd.R k44 44 w72 w.heap.size (fun k_ => some k_ ≠ (.slice (some ad774) t768.length co12 : Value).ownBlock) (.slice Ao13 t771.length co13) t771) := ⟨by rw [← hw_]; refine zrR ?_; exact Kd.R_mono (zfR (zfR (zfR (zfR (zfR (zgR (zgR (zgR (zgR (zgR (Kd.R_types (Kd.R_types HO_6.1 BK778.1 (by decide)) BK779.1 (by decide)))))))))))) (fun _ hk => hk.1.1)⟩
    have n3_ : Aside0 (w72.heap[gb778]? = some (.cells #[.int .i64 ((rd_T31 t765 ((rd_T44 t768 x7_1).f0)).f0), .int .i64 ((rd_T31 t765 ((rd_T44 t768 x7_1).f0)).f1), .int .i64 ((rd_T31 t765 ((rd_T44 t768 x7_1).f0)).f2), .int .i64 ((rd_T31 t765 ((rd_T44 t768 x7_1).f0)).f3), .int .i64 ((rd_T31 t765 ((rd_T44 t768 x7_1).f0)).f4)] 31 (0, 0))) := ⟨by rw [← hw_]; exact zPq⟩
    have n4_ : Aside0 (w72.heap[gb779]? = some (.cells #[.int .i64 ((rd_T31 t765 ((rd_T44 t768 x7_1).f1)).f0), .int .i64 ((rd_T31 t765 ((rd_T44 t768 x7_1).f1)).f1), .int .i64 ((rd_T31 t765 ((rd_T44 t768 x7_1).f1)).f2), .int .i64 ((rd_T31 t765 ((rd_T44 t768 x7_1).f1)).f3), .int .i64 ((rd_T31 t765 ((rd_T44 t768 x7_1).f1)).f4)] 31 (0, 0))) := ⟨by rw [← hw_]; exact zPq⟩
    have n5_ : Aside0 (Below w.heap.size w w72) := ⟨by rw [← hw_]; exact zB1⟩
    (try clear HO_4)
    (try clear HO_5)
    (try clear HO_6)
    (try clear BK778)
    (try clear BK779)
    (try clear HB)
    clear hw_
    have HO_4 := n0_
    have HO_5 := n1_
    have HO_6 := n2_
    have BK778 := n3_
    have BK779 := n4_
    have HB := n5_
    clear n0_ n1_ n2_ n3_ n4_ n5_
    replace HO_4 := zM (Kd.R_drew HO_4.1)
    replace HO_5 := zM (Kd.R_drew HO_5.1)
    replace HO_6 := zM (Kd.R_drew HO_6.1)
    replace BK778 := zM (blk_drew BK778.1)
    replace BK779 := zM (blk_drew BK779.1)
    replace HB := zM (below_drew1 HB.1)
    obtain ⟨p780, q780, ad780, e780, hx780_0, hx780_1⟩ := zRd (at_T44 (Kd.R_reads' HO_5.1).2.2 x7_1)
    obtain rfl : ad774 = ad780 := (by injection e780)
    obtain ⟨p781, q781, ad781, e781, hx781_0, hx781_1⟩ := zRd (at_T44 (Kd.R_reads' HO_6.1).2.2 x7_1)
    cases e781
    obtain ⟨p782, q782, ad782, e782, hx782_0, hx782_1⟩ := zRd (at_T44 (Kd.R_reads' HO_5.1).2.2 x7_1)
    obtain rfl : ad774 = ad782 := (by injection e782)
    obtain ⟨p783, q783, ad783, e783, hx783_0, hx783_1⟩ := zRd (at_T44 (Kd.R_reads' HO_5.1).2.2 x7_1)
    obtain rfl : ad774 = ad783 := (by injection e783)
    refine start_ (n := 48) (S := zS3_17 gb778 t765 t768 x7_1 gb779 ad774 ad781 t771) (ds := []) zq17_22 (by kernel_rfl) rfl rfl ⟨(blk_cell BK778.1 0).trans rfl, (blk_cell BK778.1 1).trans rfl, (blk_cell BK778.1 2).trans rfl, (blk_cell BK778.1 3).trans rfl, (blk_cell BK778.1 4).trans rfl, (blk_cell BK779.1 0).trans rfl, (blk_cell BK779.1 1).trans rfl, (blk_cell BK779.1 2).trans rfl, (blk_cell BK779.1 3).trans rfl, (blk_cell BK779.1 4).trans rfl, hx780_0, hx780_1, hx781_0, hx781_1, hx782_0, hx782_1, hx783_0, hx783_1⟩ (fun hHeld => ?_); refine with_tabW laws_FnRaces.tab12 laws_FnRaces.bits12 (fun HT_ HW_ => ?_)
    generalize w72.drew = w73 at HO_4 HO_5 HO_6 BK778 BK779 HB hx780_0 hx780_1 hx781_0 hx781_1 hx782_0 hx782_1 hx783_0 hx783_1 hHeld ⊢
    refine zPu 0 ?_
    refine zPu 1 ?_
    refine zPu 2 ?_
    refine zPu 4 ?_
    refine zPu 5 ?_
    refine zPu 6 ?_
    refine zTk18 3 hHeld ?_
    refine zTk18 7 hHeld ?_
    refine zPu 8 ?_
    refine zPu 9 ?_
    refine zPu 10 ?_
    refine zPu 12 ?_
    refine zTk18 11 hHeld ?_
    refine zTk18 13 hHeld ?_
    refine zPu 14 ?_
    refine zPu 15 ?_
    refine zPu 16 ?_
    refine zPu 17 ?_
    refine zPu 19 ?_
    refine zTk18 18 hHeld ?_
    refine zTk18 20 hHeld ?_
    refine zPu 21 ?_
    refine zPu 22 ?_
    refine zPu 23 ?_
    refine zPu 24 ?_
    refine zPu 25 ?_
    refine zPu 26 ?_
    refine zPu 27 ?_
    refine zPu 28 ?_
    refine zPu 29 ?_
    refine zPu 31 ?_
    refine zPu 32 ?_
    refine zPu 33 ?_
    refine zPu 34 ?_
    refine zTk18 30 hHeld ?_
    refine zTk18 35 hHeld ?_
    refine zOn 36 (some 88) fun K hK => ?_
    refine zGs Try.func16 #[.int .i64 t764, .slice (some ad775) t765.length co9, .int .i64 ((rd_T44 t768 x7_1).f0), .int .i64 ((rd_T44 t768 x7_1).f1)] ?_
    with_reducible refine (impl_Knows.calls k1 t764 _ _ t765 ((rd_T44 t768 x7_1).f0) ((rd_T44 t768 x7_1).f1) true _ ?side1 ?side2 A56.1).mono ?_
    (case side1 => exact zC (Kd.R_reads' HO_4.1).2.2)
    (case side2 => exact (Kd.R_reads' HO_4.1).2.1)
    rintro e w74 ⟨rfl, hb⟩
    have HS10_ := (hb.cell (World.block_lt_of_cell? _ _ (hHeld.2.2.2.2.2.2.2.2.2.2.1))).trans (hHeld.2.2.2.2.2.2.2.2.2.2.1)
    have HS11_ := (hb.cell (World.block_lt_of_cell? _ _ (hHeld.2.2.2.2.2.2.2.2.2.2.2.1))).trans (hHeld.2.2.2.2.2.2.2.2.2.2.2.1)
    have HS12_ := (hb.cell (World.block_lt_of_cell? _ _ (hHeld.2.2.2.2.2.2.2.2.2.2.2.2.1))).trans (hHeld.2.2.2.2.2.2.2.2.2.2.2.2.1)
    have HS13_ := (hb.cell (World.block_lt_of_cell? _ _ (hHeld.2.2.2.2.2.2.2.2.2.2.2.2.2.1))).trans (hHeld.2.2.2.2.2.2.2.2.2.2.2.2.2.1)
    have HS14_ := (hb.cell (World.block_lt_of_cell? _ _ (hHeld.2.2.2.2.2.2.2.2.2.2.2.2.2.2.1))).trans (hHeld.2.2.2.2.2.2.2.2.2.2.2.2.2.2.1)
    have HS15_ := (hb.cell (World.block_lt_of_cell? _ _ (hHeld.2.2.2.2.2.2.2.2.2.2.2.2.2.2.2.1))).trans (hHeld.2.2.2.2.2.2.2.2.2.2.2.2.2.2.2.1)
    have HS16_ := (hb.cell (World.block_lt_of_cell? _ _ (hHeld.2.2.2.2.2.2.2.2.2.2.2.2.2.2.2.2.1))).trans (hHeld.2.2.2.2.2.2.2.2.2.2.2.2.2.2.2.2.1)
    have HS17_ := (hb.cell (World.block_lt_of_cell? _ _ (hHeld.2.2.2.2.2.2.2.2.2.2.2.2.2.2.2.2.2))).trans (hHeld.2.2.2.2.2.2.2.2.2.2.2.2.2.2.2.2.2)
    refine ⟨_, rfl, ?_⟩
    replace HO_4 := zM (Kd.R_below (zR HO_4.1) hb)
    replace HO_5 := zM (Kd.R_below (zR HO_5.1) hb)
    replace HO_6 := zM (Kd.R_below (zR HO_6.1) hb)
    replace BK778 := zM (blk_below (g := gb778) (o := .cells #[.int .i64 ((rd_T31 t765 ((rd_T44 t768 x7_1).f0)).f0), .int .i64 ((rd_T31 t765 ((rd_T44 t768 x7_1).f0)).f1), .int .i64 ((rd_T31 t765 ((rd_T44 t768 x7_1).f0)).f2), .int .i64 ((rd_T31 t765 ((rd_T44 t768 x7_1).f0)).f3), .int .i64 ((rd_T31 t765 ((rd_T44 t768 x7_1).f0)).f4)] 31 (0, 0)) (zK BK778.1) hb)
    replace BK779 := zM (blk_below (g := gb779) (o := .cells #[.int .i64 ((rd_T31 t765 ((rd_T44 t768 x7_1).f1)).f0), .int .i64 ((rd_T31 t765 ((rd_T44 t768 x7_1).f1)).f1), .int .i64 ((rd_T31 t765 ((rd_T44 t768 x7_1).f1)).f2), .int .i64 ((rd_T31 t765 ((rd_T44 t768 x7_1).f1)).f3), .int .i64 ((rd_T31 t765 ((rd_T44 t768 x7_1).f1)).f4)] 31 (0, 0)) (zK BK779.1) hb)
    replace HB := zM (below_step zB1 hb)
    refine hK.out _ _ ⟨(blk_cell BK778.1 0).trans rfl, (blk_cell BK778.1 1).trans rfl, (blk_cell BK778.1 2).trans rfl, (blk_cell BK778.1 3).trans rfl, (blk_cell BK778.1 4).trans rfl, (blk_cell BK779.1 0).trans rfl, (blk_cell BK779.1 1).trans rfl, (blk_cell BK779.1 2).trans rfl, (blk_cell BK779.1 3).trans rfl, (blk_cell BK779.1 4).trans rfl, HS10_, HS11_, HS12_, HS13_, HS14_, HS15_, HS16_, HS17_⟩ (fun hHeld => ?_)
    clear hK K
    refine zNo ?_
    refine zPu 37 ?_
    refine zPu 38 ?_
    refine zPn 39 ?_
    refine zPn 40 ?_
    refine zPn 41 ?_
    refine zPn 42 ?_
    refine zPn 43 ?_
    refine zPn 44 ?_
    refine zPn 45 ?_
    refine zPn 46 ?_
    refine zPu 47 ?_
    refine done_ (done_of HT_.1 (by kernel_rfl)) ?_
    try go_wp2
    go_ret
    exact ⟨zE, zB1⟩
   replace c57 := Bool.eq_false_iff.mpr c57
   subst c57
   rw [if_neg zF] at H
   by_cases c75 : ((rd_T31 t765 ((rd_T44 t768 x7_1).f0)).f4) < 0
   rotate_left
   ·rw [if_neg c75] at H
    have c75b0 := decide_eq_false c75
    clear c75
    have H' := zM H
    clear H
    try go_wp2
    replace HO_4 := zM (Kd.R_drew HO_4.1)
    replace HO_5 := zM (Kd.R_drew HO_5.1)
    replace HO_6 := zM (Kd.R_drew HO_6.1)
    replace HB := zM (below_drew1 HB.1)
    obtain ⟨p774, q774, ad774, e774, hx774_0, hx774_1⟩ := zRd (at_T44 (Kd.R_reads' HO_5.1).2.2 x7_1)
    cases e774
    obtain ⟨p775, q775, ad775, e775, hx775_0, hx775_1, hx775_2, hx775_3, hx775_4⟩ := zRd (at_T31 (Kd.R_reads' HO_4.1).2.2 ((rd_T44 t768 x7_1).f0))
    cases e775
    obtain ⟨p776, q776, ad776, e776, hx776_0, hx776_1⟩ := zRd (at_T44 (Kd.R_reads' HO_5.1).2.2 x7_1)
    obtain rfl : ad774 = ad776 := (by injection e776)
    obtain ⟨p777, q777, ad777, e777, hx777_0, hx777_1, hx777_2, hx777_3, hx777_4⟩ := zRd (at_T31 (Kd.R_reads' HO_4.1).2.2 ((rd_T44 t768 x7_1).f1))
    obtain rfl : ad775 = ad777 := (by injection e777)
    refine start_ (n := 20) (S := zS1_17 ad774 x7_1 t768 ad775 t765) (ds := []) zq17_0 (by kernel_rfl) rfl rfl ⟨hx774_0, hx774_1, hx775_0, hx775_1, hx775_2, hx775_3, hx775_4, hx776_0, hx776_1, hx777_0, hx777_1, hx777_2, hx777_3, hx777_4⟩ (fun hHeld => ?_); refine with_tabW laws_FnRaces.tab11 laws_FnRaces.bits11 (fun HT_ HW_ => ?_)
    generalize wr.drew = w111 at HO_4 HO_5 HO_6 HB hx774_0 hx774_1 hx775_0 hx775_1 hx775_2 hx775_3 hx775_4 hx776_0 hx776_1 hx777_0 hx777_1 hx777_2 hx777_3 hx777_4 hHeld ⊢
    refine zPu 0 ?_
    refine zPu 1 ?_
    refine zPu 2 ?_
    refine zPu 3 ?_
    refine zPu 4 ?_
    refine zPu 8 ?_
    refine zPu 9 ?_
    refine zPu 10 ?_
    refine zPu 11 ?_
    refine zPu 12 ?_
    refine zTk14 5 hHeld ?_
    refine zPu 6 ?_
    refine zTk14 7 hHeld ?_
    refine zTk14 13 hHeld ?_
    refine zPu 14 ?_
    refine zTk14 15 hHeld ?_
    refine join_ (σ := Nat × Nat) 2 zq17_17 (fun s_ => [(8, .pointer (some ⟨s_.1, 0, none⟩)), (9, .pointer (some ⟨s_.2, 0, none⟩))]) (fun s_ w' => (zS1_17 ad774 x7_1 t768 ad775 t765 w') ∧ (Kd.R k31 31 w' w.heap.size (fun k_ => k_ ≠ s_.1 ∧ k_ ≠ s_.2) (.slice (some ad775) t765.length co9) t765) ∧ (Kd.R k44 44 w' w.heap.size (fun k_ => some k_ ≠ (.slice Ao13 t771.length co13 : Value).ownBlock) (.slice (some ad774) t768.length co12) t768) ∧ (Kd.R k44 44 w' w.heap.size (fun k_ => some k_ ≠ (.slice (some ad774) t768.length co12 : Value).ownBlock) (.slice Ao13 t771.length co13) t771) ∧ (w'.heap[s_.1]? = some (.cells #[.int .i64 0, .int .i64 0, .int .i64 0, .int .i64 0, .int .i64 0] 31 (0, 0))) ∧ (w'.heap[s_.2]? = some (.cells #[.int .i64 0, .int .i64 0, .int .i64 0, .int .i64 0, .int .i64 0] 31 (0, 0))) ∧ (w.heap.size ≤ s_.1) ∧ (w.heap.size ≤ s_.1) ∧ (s_.2 ≠ s_.1) ∧ (s_.1 ≠ s_.2) ∧ (w.heap.size ≤ s_.2) ∧ (w.heap.size ≤ s_.2) ∧ (Below w.heap.size w w')) ?_ ?_
    rotate_left
    ·intro hCont
     refine two_ (i := 16) (j := 17) (Ni := some 8) (Nj := some 9) zq17_18 zq17_19 rfl rfl rfl rfl (two_of HT_.1 (by kernel_rfl)) (by decide) (by decide) (fun K hK => ?_) (fun K hK => ?_)
     ·refine zBs 8 31 #[.int .i64 0, .int .i64 0, .int .i64 0, .int .i64 0, .int .i64 0] ?_
      intro gb778 hg w112 hbox hb
      replace HO_4 := zM (Kd.R_below (Kd.R_elderB (zR HO_4.1) gb778 (Nat.le_of_eq hg.symm)) hb)
      replace HO_5 := zM (Kd.R_below (zR HO_5.1) hb)
      replace HO_6 := zM (Kd.R_below (zR HO_6.1) hb)
      replace BK778 := zM hbox
      replace GW778 := zM (zW hg (below_size zB1))
      replace GE778 := zM (zW hg (below_size zB1))
      replace HB := zM (below_step zB1 hb)
      refine hK.out _ _ zCs fun hHeld => ?_
      clear hK K
      refine zNo ?_
      refine zOn 17 (some 9) fun K hK => ?_
      refine zBs 9 31 #[.int .i64 0, .int .i64 0, .int .i64 0, .int .i64 0, .int .i64 0] ?_
      intro gb779 hg w113 hbox hb
      replace HO_4 := zM (Kd.R_below (Kd.R_elderB (zR HO_4.1) gb779 (Nat.le_of_eq hg.symm)) hb)
      replace HO_5 := zM (Kd.R_below (zR HO_5.1) hb)
      replace HO_6 := zM (Kd.R_below (zR HO_6.1) hb)
      replace BK779 := zM hbox
      replace GW779 := zM (zW hg (below_size zB1))
      replace GE779 := zM (zW hg (below_size zB1))
      replace HB := zM (below_step zB1 hb)
      replace NB778_779 := zM ((zn BK778.1 hg : gb778 ≠ gb779))
      replace NB779_778 := zM ((zm BK778.1 hg : gb779 ≠ gb778))
      replace BK778 := zM (zb BK778.1 hb)
      refine hK.out _ _ zCs fun hHeld => ?_
      clear hK K
      refine zNo ?_
      exact norm_ zNr (hCont (gb778, gb779) _ ⟨hHeld, (by refine zrR ?_; exact Kd.R_mono HO_4.1 (fun _ hk => ⟨hk.1.2, hk.2⟩)), (zR HO_5.1), (zR HO_6.1), (zK BK778.1), (zK BK779.1), GW778.1, GE778.1, NB779_778.1, NB778_779.1, GW779.1, GE779.1, zB1⟩)
     ·refine zBs 9 31 #[.int .i64 0, .int .i64 0, .int .i64 0, .int .i64 0, .int .i64 0] ?_
      intro gb779 hg w112 hbox hb
      replace HO_4 := zM (Kd.R_below (Kd.R_elderB (zR HO_4.1) gb779 (Nat.le_of_eq hg.symm)) hb)
      replace HO_5 := zM (Kd.R_below (zR HO_5.1) hb)
      replace HO_6 := zM (Kd.R_below (zR HO_6.1) hb)
      replace BK779 := zM hbox
      replace GW779 := zM (zW hg (below_size zB1))
      replace GE779 := zM (zW hg (below_size zB1))
      replace HB := zM (below_step zB1 hb)
      refine hK.out _ _ zCs fun hHeld => ?_
      clear hK K
      refine zNo ?_
      refine zOn 16 (some 8) fun K hK => ?_
      refine zBs 8 31 #[.int .i64 0, .int .i64 0, .int .i64 0, .int .i64 0, .int .i64 0] ?_
      intro gb778 hg w113 hbox hb
      replace HO_4 := zM (Kd.R_below (Kd.R_elderB (zR HO_4.1) gb778 (Nat.le_of_eq hg.symm)) hb)
      replace HO_5 := zM (Kd.R_below (zR HO_5.1) hb)
      replace HO_6 := zM (Kd.R_below (zR HO_6.1) hb)
      replace BK778 := zM hbox
      replace GW778 := zM (zW hg (below_size zB1))
      replace GE778 := zM (zW hg (below_size zB1))
      replace HB := zM (below_step zB1 hb)
      replace NB779_778 := zM ((zn BK779.1 hg : gb779 ≠ gb778))
      replace NB778_779 := zM ((zm BK779.1 hg : gb778 ≠ gb779))
      replace BK779 := zM (zb BK779.1 hb)
      refine hK.out _ _ zCs fun hHeld => ?_
      clear hK K
      refine zNo ?_
      exact norm_ zNr (hCont (gb778, gb779) _ ⟨hHeld, (by refine zrR ?_; exact Kd.R_mono HO_4.1 (fun _ hk => ⟨hk.2, hk.1.2⟩)), (zR HO_5.1), (zR HO_6.1), (zK BK778.1), (zK BK779.1), GW778.1, GE778.1, NB779_778.1, NB778_779.1, GW779.1, GE779.1, zB1⟩)
    rintro ⟨gb778, gb779⟩ w114 ⟨hS_, h0_, h1_, h2_, h3_, h4_, h5_, h6_, h7_, h8_, h9_, h10_, h11_⟩
    replace HO_4 := zM h0_
    replace HO_5 := zM h1_
    replace HO_6 := zM h2_
    replace BK778 := zM h3_
    replace BK779 := zM h4_
    replace GW778 := zM h5_
    replace GE778 := zM h6_
    replace NB779_778 := zM h7_
    replace NB778_779 := zM h8_
    replace GW779 := zM h9_
    replace GE779 := zM h10_
    replace HB := zM h11_
    have hHeld := hS_
    refine zNp ?_
    refine zOn 18 none fun K hK => ?_
    obtain ⟨hs115, hfs115⟩ := zHs BK778.1 0
    have hns115_1 := NB779_778.1
    have hms115_1 := NB778_779.1
    obtain ⟨hs116, hfs116⟩ := zHs BK778.1 1
    have hns116_1 := NB779_778.1
    have hms116_1 := NB778_779.1
    obtain ⟨hs117, hfs117⟩ := zHs BK778.1 2
    have hns117_1 := NB779_778.1
    have hms117_1 := NB778_779.1
    obtain ⟨hs118, hfs118⟩ := zHs BK778.1 3
    have hns118_1 := NB779_778.1
    have hms118_1 := NB778_779.1
    obtain ⟨hs119, hfs119⟩ := zHs BK778.1 4
    have hns119_1 := NB779_778.1
    have hms119_1 := NB778_779.1
    refine skip_ (w1 := ?_) (by rfl) rfl ?_ ?_
    rotate_left
    ·go_simp
     rfl
    have f0_ := zM (Kd.own_blk (Kd.R_ne HO_5.1 BK778.1 (by decide)))
    have f1_ := zM (Kd.own_blk (Kd.R_away HO_4.1 (fun _ hk => hk.1)))
    refine hK.out _ _ zCu fun hHeld => ?_
    clear hK K
    refine zOn 19 none fun K hK => ?_
    obtain ⟨hs120, hfs120⟩ := zHs BK779.1 0
    have hns120_0 := NB778_779.1
    have hms120_0 := NB779_778.1
    obtain ⟨hs121, hfs121⟩ := zHs BK779.1 1
    have hns121_0 := NB778_779.1
    have hms121_0 := NB779_778.1
    obtain ⟨hs122, hfs122⟩ := zHs BK779.1 2
    have hns122_0 := NB778_779.1
    have hms122_0 := NB779_778.1
    obtain ⟨hs123, hfs123⟩ := zHs BK779.1 3
    have hns123_0 := NB778_779.1
    have hms123_0 := NB779_778.1
    obtain ⟨hs124, hfs124⟩ := zHs BK779.1 4
    have hns124_0 := NB778_779.1
    have hms124_0 := NB779_778.1
    refine skip_ (w1 := ?_) (by rfl) rfl ?_ ?_
    rotate_left
    ·go_simp
     rfl
    have f0_ := zM (Kd.own_blk (Kd.R_ne HO_5.1 BK779.1 (by decide)))
    have f1_ := zM (Kd.own_blk (Kd.R_away HO_4.1 (fun _ hk => hk.2)))
    refine hK.out _ _ zCu fun hHeld => ?_
    clear hK K
    refine done_ (done_of HT_.1 (by kernel_rfl)) ?_
    try go_wp2
    generalize hw_ : ((((((((((w114.setCell ⟨gb778, 0, none⟩ (.int .i64 ((rd_T31 t765 ((rd_T44 t768 x7_1).f0)).f0))).setCell ⟨gb778, 1, none⟩ (.int .i64 ((rd_T31 t765 ((rd_T44 t768 x7_1).f0)).f1))).setCell ⟨gb778, 2, none⟩ (.int .i64 ((rd_T31 t765 ((rd_T44 t768 x7_1).f0)).f2))).setCell ⟨gb778, 3, none⟩ (.int .i64 ((rd_T31 t765 ((rd_T44 t768 x7_1).f0)).f3))).setCell ⟨gb778, 4, none⟩ (.int .i64 ((rd_T31 t765 ((rd_T44 t768 x7_1).f0)).f4))).setCell ⟨gb779, 0, none⟩ (.int .i64 ((rd_T31 t765 ((rd_T44 t768 x7_1).f1)).f0))).setCell ⟨gb779, 1, none⟩ (.int .i64 ((rd_T31 t765 ((rd_T44 t768 x7_1).f1)).f1))).setCell ⟨gb779, 2, none⟩ (.int .i64 ((rd_T31 t765 ((rd_T44 t768 x7_1).f1)).f2))).setCell ⟨gb779, 3, none⟩ (.int .i64 ((rd_T31 t765 ((rd_T44 t768 x7_1).f1)).f3))).setCell ⟨gb779, 4, none⟩ (.int .i64 ((rd_T31 t765 ((rd_T44 t768 x7_1).f1)).f4))) = w125
    have n0_ : Aside0 (Kd.R k31 31 w125 w.heap.size (fun k_ => k_ ≠ gb778 ∧ k_ ≠ gb779) (.slice (some ad775) t765.length co9) t765) := ⟨by rw [← hw_]; refine zrR ?_; exact Kd.R_mono (zfR (zfR (zfR (zfR (zfR (zgR (zgR (zgR (zgR (zgR (Kd.R_mono (Kd.R_mono HO_4.1 (fun k_ hk => (⟨hk, hk.1⟩ : _ ∧ k_ ≠ gb778))) (fun k_ hk => (⟨hk, hk.1.2⟩ : _ ∧ k_ ≠ gb779))))))))))))) (fun _ hk => ⟨hk.1.1.1, hk.1.1.2⟩)⟩
    have n1_ : Aside0 (Kd.R k44 44 w125 w.heap.size (fun k_ => some k_ ≠ (.slice Ao13 t771.length co13 : Value).ownBlock) (.slice (some ad774) t768.length co12) t768) := ⟨by rw [← hw_]; refine zrR ?_; exact Kd.R_mono (zfR (zfR (zfR (zfR (zfR (zgR (zgR (zgR (zgR (zgR (Kd.R_types (Kd.R_types HO_5.1 BK778.1 (by decide)) BK779.1 (by decide)))))))))))) (fun _ hk => hk.1.1)⟩
    have n2_ : Aside0 (Kd.R k44 44 w125 w.heap.size (fun k_ => some k_ ≠ (.slice (some ad774) t768.length co12 : Value).ownBlock) (.slice Ao13 t771.length co13) t771) := ⟨by rw [← hw_]; refine zrR ?_; exact Kd.R_mono (zfR (zfR (zfR (zfR (zfR (zgR (zgR (zgR (zgR (zgR (Kd.R_types (Kd.R_types HO_6.1 BK778.1 (by decide)) BK779.1 (by decide)))))))))))) (fun _ hk => hk.1.1)⟩
    have n3_ : Aside0 (w125.heap[gb778]? = some (.cells #[.int .i64 ((rd_T31 t765 ((rd_T44 t768 x7_1).f0)).f0), .int .i64 ((rd_T31 t765 ((rd_T44 t768 x7_1).f0)).f1), .int .i64 ((rd_T31 t765 ((rd_T44 t768 x7_1).f0)).f2), .int .i64 ((rd_T31 t765 ((rd_T44 t768 x7_1).f0)).f3), .int .i64 ((rd_T31 t765 ((rd_T44 t768 x7_1).f0)).f4)] 31 (0, 0))) := ⟨by rw [← hw_]; exact zPq⟩
    have n4_ : Aside0 (w125.heap[gb779]? = some (.cells #[.int .i64 ((rd_T31 t765 ((rd_T44 t768 x7_1).f1)).f0), .int .i64 ((rd_T31 t765 ((rd_T44 t768 x7_1).f1)).f1), .int .i64 ((rd_T31 t765 ((rd_T44 t768 x7_1).f1)).f2), .int .i64 ((rd_T31 t765 ((rd_T44 t768 x7_1).f1)).f3), .int .i64 ((rd_T31 t765 ((rd_T44 t768 x7_1).f1)).f4)] 31 (0, 0))) := ⟨by rw [← hw_]; exact zPq⟩
    have n5_ : Aside0 (Below w.heap.size w w125) := ⟨by rw [← hw_]; exact zB1⟩
    (try clear HO_4)
    (try clear HO_5)
    (try clear HO_6)
    (try clear BK778)
    (try clear BK779)
    (try clear HB)
    clear hw_
    have HO_4 := n0_
    have HO_5 := n1_
    have HO_6 := n2_
    have BK778 := n3_
    have BK779 := n4_
    have HB := n5_
    clear n0_ n1_ n2_ n3_ n4_ n5_
    replace HO_4 := zM (Kd.R_drew HO_4.1)
    replace HO_5 := zM (Kd.R_drew HO_5.1)
    replace HO_6 := zM (Kd.R_drew HO_6.1)
    replace BK778 := zM (blk_drew BK778.1)
    replace BK779 := zM (blk_drew BK779.1)
    replace HB := zM (below_drew1 HB.1)
    obtain ⟨p780, q780, ad780, e780, hx780_0, hx780_1⟩ := zRd (at_T44 (Kd.R_reads' HO_5.1).2.2 x7_1)
    obtain rfl : ad774 = ad780 := (by injection e780)
    obtain ⟨p781, q781, ad781, e781, hx781_0, hx781_1⟩ := zRd (at_T44 (Kd.R_reads' HO_6.1).2.2 x7_1)
    cases e781
    obtain ⟨p782, q782, ad782, e782, hx782_0, hx782_1⟩ := zRd (at_T44 (Kd.R_reads' HO_5.1).2.2 x7_1)
    obtain rfl : ad774 = ad782 := (by injection e782)
    obtain ⟨p783, q783, ad783, e783, hx783_0, hx783_1⟩ := zRd (at_T44 (Kd.R_reads' HO_5.1).2.2 x7_1)
    obtain rfl : ad774 = ad783 := (by injection e783)
    refine start_ (n := 48) (S := zS3_17 gb778 t765 t768 x7_1 gb779 ad774 ad781 t771) (ds := []) zq17_22 (by kernel_rfl) rfl rfl ⟨(blk_cell BK778.1 0).trans rfl, (blk_cell BK778.1 1).trans rfl, (blk_cell BK778.1 2).trans rfl, (blk_cell BK778.1 3).trans rfl, (blk_cell BK778.1 4).trans rfl, (blk_cell BK779.1 0).trans rfl, (blk_cell BK779.1 1).trans rfl, (blk_cell BK779.1 2).trans rfl, (blk_cell BK779.1 3).trans rfl, (blk_cell BK779.1 4).trans rfl, hx780_0, hx780_1, hx781_0, hx781_1, hx782_0, hx782_1, hx783_0, hx783_1⟩ (fun hHeld => ?_); refine with_tabW laws_FnRaces.tab12 laws_FnRaces.bits12 (fun HT_ HW_ => ?_)
    generalize w125.drew = w126 at HO_4 HO_5 HO_6 BK778 BK779 HB hx780_0 hx780_1 hx781_0 hx781_1 hx782_0 hx782_1 hx783_0 hx783_1 hHeld ⊢
    refine zPu 0 ?_
    refine zPu 1 ?_
    refine zPu 2 ?_
    refine zPu 4 ?_
    refine zPu 5 ?_
    refine zPu 6 ?_
    refine zTk18 3 hHeld ?_
    refine zTk18 7 hHeld ?_
    refine zPu 8 ?_
    refine zPu 9 ?_
    refine zPu 10 ?_
    refine zPu 12 ?_
    refine zTk18 11 hHeld ?_
    refine zTk18 13 hHeld ?_
    refine zPu 14 ?_
    refine zPu 15 ?_
    refine zPu 16 ?_
    refine zPu 17 ?_
    refine zPu 19 ?_
    refine zTk18 18 hHeld ?_
    refine zTk18 20 hHeld ?_
    refine zPu 21 ?_
    refine zPu 22 ?_
    refine zPu 23 ?_
    refine zPu 24 ?_
    refine zPu 25 ?_
    refine zPu 26 ?_
    refine zPu 27 ?_
    refine zPu 28 ?_
    refine zPu 29 ?_
    refine zPu 31 ?_
    refine zPu 32 ?_
    refine zPu 33 ?_
    refine zPu 34 ?_
    refine zTk18 30 hHeld ?_
    refine zTk18 35 hHeld ?_
    refine zOn 36 (some 88) fun K hK => ?_
    refine zGs Try.func16 #[.int .i64 t764, .slice (some ad775) t765.length co9, .int .i64 ((rd_T44 t768 x7_1).f0), .int .i64 ((rd_T44 t768 x7_1).f1)] ?_
    with_reducible refine (impl_Knows.calls k1 t764 _ _ t765 ((rd_T44 t768 x7_1).f0) ((rd_T44 t768 x7_1).f1) false _ ?side1 ?side2 A56.1).mono ?_
    (case side1 => exact zC (Kd.R_reads' HO_4.1).2.2)
    (case side2 => exact (Kd.R_reads' HO_4.1).2.1)
    rintro e w127 ⟨rfl, hb⟩
    have HS10_ := (hb.cell (World.block_lt_of_cell? _ _ (hHeld.2.2.2.2.2.2.2.2.2.2.1))).trans (hHeld.2.2.2.2.2.2.2.2.2.2.1)
    have HS11_ := (hb.cell (World.block_lt_of_cell? _ _ (hHeld.2.2.2.2.2.2.2.2.2.2.2.1))).trans (hHeld.2.2.2.2.2.2.2.2.2.2.2.1)
    have HS12_ := (hb.cell (World.block_lt_of_cell? _ _ (hHeld.2.2.2.2.2.2.2.2.2.2.2.2.1))).trans (hHeld.2.2.2.2.2.2.2.2.2.2.2.2.1)
    have HS13_ := (hb.cell (World.block_lt_of_cell? _ _ (hHeld.2.2.2.2.2.2.2.2.2.2.2.2.2.1))).trans (hHeld.2.2.2.2.2.2.2.2.2.2.2.2.2.1)
    have HS14_ := (hb.cell (World.block_lt_of_cell? _ _ (hHeld.2.2.2.2.2.2.2.2.2.2.2.2.2.2.1))).trans (hHeld.2.2.2.2.2.2.2.2.2.2.2.2.2.2.1)
    have HS15_ := (hb.cell (World.block_lt_of_cell? _ _ (hHeld.2.2.2.2.2.2.2.2.2.2.2.2.2.2.2.1))).trans (hHeld.2.2.2.2.2.2.2.2.2.2.2.2.2.2.2.1)
    have HS16_ := (hb.cell (World.block_lt_of_cell? _ _ (hHeld.2.2.2.2.2.2.2.2.2.2.2.2.2.2.2.2.1))).trans (hHeld.2.2.2.2.2.2.2.2.2.2.2.2.2.2.2.2.1)
    have HS17_ := (hb.cell (World.block_lt_of_cell? _ _ (hHeld.2.2.2.2.2.2.2.2.2.2.2.2.2.2.2.2.2))).trans (hHeld.2.2.2.2.2.2.2.2.2.2.2.2.2.2.2.2.2)
    refine ⟨_, rfl, ?_⟩
    replace HO_4 := zM (Kd.R_below (zR HO_4.1) hb)
    replace HO_5 := zM (Kd.R_below (zR HO_5.1) hb)
    replace HO_6 := zM (Kd.R_below (zR HO_6.1) hb)
    replace BK778 := zM (blk_below (g := gb778) (o := .cells #[.int .i64 ((rd_T31 t765 ((rd_T44 t768 x7_1).f0)).f0), .int .i64 ((rd_T31 t765 ((rd_T44 t768 x7_1).f0)).f1), .int .i64 ((rd_T31 t765 ((rd_T44 t768 x7_1).f0)).f2), .int .i64 ((rd_T31 t765 ((rd_T44 t768 x7_1).f0)).f3), .int .i64 ((rd_T31 t765 ((rd_T44 t768 x7_1).f0)).f4)] 31 (0, 0)) (zK BK778.1) hb)
    replace BK779 := zM (blk_below (g := gb779) (o := .cells #[.int .i64 ((rd_T31 t765 ((rd_T44 t768 x7_1).f1)).f0), .int .i64 ((rd_T31 t765 ((rd_T44 t768 x7_1).f1)).f1), .int .i64 ((rd_T31 t765 ((rd_T44 t768 x7_1).f1)).f2), .int .i64 ((rd_T31 t765 ((rd_T44 t768 x7_1).f1)).f3), .int .i64 ((rd_T31 t765 ((rd_T44 t768 x7_1).f1)).f4)] 31 (0, 0)) (zK BK779.1) hb)
    replace HB := zM (below_step zB1 hb)
    refine hK.out _ _ ⟨(blk_cell BK778.1 0).trans rfl, (blk_cell BK778.1 1).trans rfl, (blk_cell BK778.1 2).trans rfl, (blk_cell BK778.1 3).trans rfl, (blk_cell BK778.1 4).trans rfl, (blk_cell BK779.1 0).trans rfl, (blk_cell BK779.1 1).trans rfl, (blk_cell BK779.1 2).trans rfl, (blk_cell BK779.1 3).trans rfl, (blk_cell BK779.1 4).trans rfl, HS10_, HS11_, HS12_, HS13_, HS14_, HS15_, HS16_, HS17_⟩ (fun hHeld => ?_)
    clear hK K
    refine zNo ?_
    refine zPu 37 ?_
    refine zPu 38 ?_
    refine zPu 39 ?_
    refine zTk18 40 hHeld ?_
    refine zPu 41 ?_
    refine zPu 42 ?_
    refine zPn 43 ?_
    refine zPn 44 ?_
    refine zPn 45 ?_
    refine zPu 46 ?_
    refine zPu 47 ?_
    refine done_ (done_of HT_.1 (by kernel_rfl)) ?_
    try go_wp2
    go_roundg k1
    case measure => have := HK1.1; omega
    case rel => exact ⟨(wrap64 (x7_1 + 1)), zJJ, H', ⟨by have := HK1.1; omega⟩, ⟨by refine zrR ?_; exact Kd.R_mono HO_4.1 (fun _ hk => trivial)⟩, ⟨zR HO_5.1⟩, ⟨zR HO_6.1⟩, ⟨zB1⟩⟩
   rw [if_pos c75] at H
   have c75b0 := decide_eq_true c75
   clear c75
   by_cases c76 : ((rd_T31 t765 ((rd_T44 t768 x7_1).f1)).f4) < 0
   ·rw [if_pos c76] at H
    have c76b0 := decide_eq_true c76
    clear c76
    obtain rfl := Option.some.inj H
    try go_wp2
    replace HO_4 := zM (Kd.R_drew HO_4.1)
    replace HO_5 := zM (Kd.R_drew HO_5.1)
    replace HO_6 := zM (Kd.R_drew HO_6.1)
    replace HB := zM (below_drew1 HB.1)
    obtain ⟨p774, q774, ad774, e774, hx774_0, hx774_1⟩ := zRd (at_T44 (Kd.R_reads' HO_5.1).2.2 x7_1)
    cases e774
    obtain ⟨p775, q775, ad775, e775, hx775_0, hx775_1, hx775_2, hx775_3, hx775_4⟩ := zRd (at_T31 (Kd.R_reads' HO_4.1).2.2 ((rd_T44 t768 x7_1).f0))
    cases e775
    obtain ⟨p776, q776, ad776, e776, hx776_0, hx776_1⟩ := zRd (at_T44 (Kd.R_reads' HO_5.1).2.2 x7_1)
    obtain rfl : ad774 = ad776 := (by injection e776)
    obtain ⟨p777, q777, ad777, e777, hx777_0, hx777_1, hx777_2, hx777_3, hx777_4⟩ := zRd (at_T31 (Kd.R_reads' HO_4.1).2.2 ((rd_T44 t768 x7_1).f1))
    obtain rfl : ad775 = ad777 := (by injection e777)
    refine start_ (n := 20) (S := zS1_17 ad774 x7_1 t768 ad775 t765) (ds := []) zq17_0 (by kernel_rfl) rfl rfl ⟨hx774_0, hx774_1, hx775_0, hx775_1, hx775_2, hx775_3, hx775_4, hx776_0, hx776_1, hx777_0, hx777_1, hx777_2, hx777_3, hx777_4⟩ (fun hHeld => ?_); refine with_tabW laws_FnRaces.tab11 laws_FnRaces.bits11 (fun HT_ HW_ => ?_)
    generalize wr.drew = w77 at HO_4 HO_5 HO_6 HB hx774_0 hx774_1 hx775_0 hx775_1 hx775_2 hx775_3 hx775_4 hx776_0 hx776_1 hx777_0 hx777_1 hx777_2 hx777_3 hx777_4 hHeld ⊢
    refine zPu 0 ?_
    refine zPu 1 ?_
    refine zPu 2 ?_
    refine zPu 3 ?_
    refine zPu 4 ?_
    refine zPu 8 ?_
    refine zPu 9 ?_
    refine zPu 10 ?_
    refine zPu 11 ?_
    refine zPu 12 ?_
    refine zTk14 5 hHeld ?_
    refine zPu 6 ?_
    refine zTk14 7 hHeld ?_
    refine zTk14 13 hHeld ?_
    refine zPu 14 ?_
    refine zTk14 15 hHeld ?_
    refine join_ (σ := Nat × Nat) 2 zq17_17 (fun s_ => [(8, .pointer (some ⟨s_.1, 0, none⟩)), (9, .pointer (some ⟨s_.2, 0, none⟩))]) (fun s_ w' => (zS1_17 ad774 x7_1 t768 ad775 t765 w') ∧ (Kd.R k31 31 w' w.heap.size (fun k_ => k_ ≠ s_.1 ∧ k_ ≠ s_.2) (.slice (some ad775) t765.length co9) t765) ∧ (Kd.R k44 44 w' w.heap.size (fun k_ => some k_ ≠ (.slice Ao13 t771.length co13 : Value).ownBlock) (.slice (some ad774) t768.length co12) t768) ∧ (Kd.R k44 44 w' w.heap.size (fun k_ => some k_ ≠ (.slice (some ad774) t768.length co12 : Value).ownBlock) (.slice Ao13 t771.length co13) t771) ∧ (w'.heap[s_.1]? = some (.cells #[.int .i64 0, .int .i64 0, .int .i64 0, .int .i64 0, .int .i64 0] 31 (0, 0))) ∧ (w'.heap[s_.2]? = some (.cells #[.int .i64 0, .int .i64 0, .int .i64 0, .int .i64 0, .int .i64 0] 31 (0, 0))) ∧ (w.heap.size ≤ s_.1) ∧ (w.heap.size ≤ s_.1) ∧ (s_.2 ≠ s_.1) ∧ (s_.1 ≠ s_.2) ∧ (w.heap.size ≤ s_.2) ∧ (w.heap.size ≤ s_.2) ∧ (Below w.heap.size w w')) ?_ ?_
    rotate_left
    ·intro hCont
     refine two_ (i := 16) (j := 17) (Ni := some 8) (Nj := some 9) zq17_18 zq17_19 rfl rfl rfl rfl (two_of HT_.1 (by kernel_rfl)) (by decide) (by decide) (fun K hK => ?_) (fun K hK => ?_)
     ·refine zBs 8 31 #[.int .i64 0, .int .i64 0, .int .i64 0, .int .i64 0, .int .i64 0] ?_
      intro gb778 hg w78 hbox hb
      replace HO_4 := zM (Kd.R_below (Kd.R_elderB (zR HO_4.1) gb778 (Nat.le_of_eq hg.symm)) hb)
      replace HO_5 := zM (Kd.R_below (zR HO_5.1) hb)
      replace HO_6 := zM (Kd.R_below (zR HO_6.1) hb)
      replace BK778 := zM hbox
      replace GW778 := zM (zW hg (below_size zB1))
      replace GE778 := zM (zW hg (below_size zB1))
      replace HB := zM (below_step zB1 hb)
      refine hK.out _ _ zCs fun hHeld => ?_
      clear hK K
      refine zNo ?_
      refine zOn 17 (some 9) fun K hK => ?_
      refine zBs 9 31 #[.int .i64 0, .int .i64 0, .int .i64 0, .int .i64 0, .int .i64 0] ?_
      intro gb779 hg w79 hbox hb
      replace HO_4 := zM (Kd.R_below (Kd.R_elderB (zR HO_4.1) gb779 (Nat.le_of_eq hg.symm)) hb)
      replace HO_5 := zM (Kd.R_below (zR HO_5.1) hb)
      replace HO_6 := zM (Kd.R_below (zR HO_6.1) hb)
      replace BK779 := zM hbox
      replace GW779 := zM (zW hg (below_size zB1))
      replace GE779 := zM (zW hg (below_size zB1))
      replace HB := zM (below_step zB1 hb)
      replace NB778_779 := zM ((zn BK778.1 hg : gb778 ≠ gb779))
      replace NB779_778 := zM ((zm BK778.1 hg : gb779 ≠ gb778))
      replace BK778 := zM (zb BK778.1 hb)
      refine hK.out _ _ zCs fun hHeld => ?_
      clear hK K
      refine zNo ?_
      exact norm_ zNr (hCont (gb778, gb779) _ ⟨hHeld, (by refine zrR ?_; exact Kd.R_mono HO_4.1 (fun _ hk => ⟨hk.1.2, hk.2⟩)), (zR HO_5.1), (zR HO_6.1), (zK BK778.1), (zK BK779.1), GW778.1, GE778.1, NB779_778.1, NB778_779.1, GW779.1, GE779.1, zB1⟩)
     ·refine zBs 9 31 #[.int .i64 0, .int .i64 0, .int .i64 0, .int .i64 0, .int .i64 0] ?_
      intro gb779 hg w78 hbox hb
      replace HO_4 := zM (Kd.R_below (Kd.R_elderB (zR HO_4.1) gb779 (Nat.le_of_eq hg.symm)) hb)
      replace HO_5 := zM (Kd.R_below (zR HO_5.1) hb)
      replace HO_6 := zM (Kd.R_below (zR HO_6.1) hb)
      replace BK779 := zM hbox
      replace GW779 := zM (zW hg (below_size zB1))
      replace GE779 := zM (zW hg (below_size zB1))
      replace HB := zM (below_step zB1 hb)
      refine hK.out _ _ zCs fun hHeld => ?_
      clear hK K
      refine zNo ?_
      refine zOn 16 (some 8) fun K hK => ?_
      refine zBs 8 31 #[.int .i64 0, .int .i64 0, .int .i64 0, .int .i64 0, .int .i64 0] ?_
      intro gb778 hg w79 hbox hb
      replace HO_4 := zM (Kd.R_below (Kd.R_elderB (zR HO_4.1) gb778 (Nat.le_of_eq hg.symm)) hb)
      replace HO_5 := zM (Kd.R_below (zR HO_5.1) hb)
      replace HO_6 := zM (Kd.R_below (zR HO_6.1) hb)
      replace BK778 := zM hbox
      replace GW778 := zM (zW hg (below_size zB1))
      replace GE778 := zM (zW hg (below_size zB1))
      replace HB := zM (below_step zB1 hb)
      replace NB779_778 := zM ((zn BK779.1 hg : gb779 ≠ gb778))
      replace NB778_779 := zM ((zm BK779.1 hg : gb778 ≠ gb779))
      replace BK779 := zM (zb BK779.1 hb)
      refine hK.out _ _ zCs fun hHeld => ?_
      clear hK K
      refine zNo ?_
      exact norm_ zNr (hCont (gb778, gb779) _ ⟨hHeld, (by refine zrR ?_; exact Kd.R_mono HO_4.1 (fun _ hk => ⟨hk.2, hk.1.2⟩)), (zR HO_5.1), (zR HO_6.1), (zK BK778.1), (zK BK779.1), GW778.1, GE778.1, NB779_778.1, NB778_779.1, GW779.1, GE779.1, zB1⟩)
    rintro ⟨gb778, gb779⟩ w80 ⟨hS_, h0_, h1_, h2_, h3_, h4_, h5_, h6_, h7_, h8_, h9_, h10_, h11_⟩
    replace HO_4 := zM h0_
    replace HO_5 := zM h1_
    replace HO_6 := zM h2_
    replace BK778 := zM h3_
    replace BK779 := zM h4_
    replace GW778 := zM h5_
    replace GE778 := zM h6_
    replace NB779_778 := zM h7_
    replace NB778_779 := zM h8_
    replace GW779 := zM h9_
    replace GE779 := zM h10_
    replace HB := zM h11_
    have hHeld := hS_
    refine zNp ?_
    refine zOn 18 none fun K hK => ?_
    obtain ⟨hs81, hfs81⟩ := zHs BK778.1 0
    have hns81_1 := NB779_778.1
    have hms81_1 := NB778_779.1
    obtain ⟨hs82, hfs82⟩ := zHs BK778.1 1
    have hns82_1 := NB779_778.1
    have hms82_1 := NB778_779.1
    obtain ⟨hs83, hfs83⟩ := zHs BK778.1 2
    have hns83_1 := NB779_778.1
    have hms83_1 := NB778_779.1
    obtain ⟨hs84, hfs84⟩ := zHs BK778.1 3
    have hns84_1 := NB779_778.1
    have hms84_1 := NB778_779.1
    obtain ⟨hs85, hfs85⟩ := zHs BK778.1 4
    have hns85_1 := NB779_778.1
    have hms85_1 := NB778_779.1
    refine skip_ (w1 := ?_) (by rfl) rfl ?_ ?_
    rotate_left
    ·go_simp
     rfl
    have f0_ := zM (Kd.own_blk (Kd.R_ne HO_5.1 BK778.1 (by decide)))
    have f1_ := zM (Kd.own_blk (Kd.R_away HO_4.1 (fun _ hk => hk.1)))
    refine hK.out _ _ zCu fun hHeld => ?_
    clear hK K
    refine zOn 19 none fun K hK => ?_
    obtain ⟨hs86, hfs86⟩ := zHs BK779.1 0
    have hns86_0 := NB778_779.1
    have hms86_0 := NB779_778.1
    obtain ⟨hs87, hfs87⟩ := zHs BK779.1 1
    have hns87_0 := NB778_779.1
    have hms87_0 := NB779_778.1
    obtain ⟨hs88, hfs88⟩ := zHs BK779.1 2
    have hns88_0 := NB778_779.1
    have hms88_0 := NB779_778.1
    obtain ⟨hs89, hfs89⟩ := zHs BK779.1 3
    have hns89_0 := NB778_779.1
    have hms89_0 := NB779_778.1
    obtain ⟨hs90, hfs90⟩ := zHs BK779.1 4
    have hns90_0 := NB778_779.1
    have hms90_0 := NB779_778.1
    refine skip_ (w1 := ?_) (by rfl) rfl ?_ ?_
    rotate_left
    ·go_simp
     rfl
    have f0_ := zM (Kd.own_blk (Kd.R_ne HO_5.1 BK779.1 (by decide)))
    have f1_ := zM (Kd.own_blk (Kd.R_away HO_4.1 (fun _ hk => hk.2)))
    refine hK.out _ _ zCu fun hHeld => ?_
    clear hK K
    refine done_ (done_of HT_.1 (by kernel_rfl)) ?_
    try go_wp2
    generalize hw_ : ((((((((((w80.setCell ⟨gb778, 0, none⟩ (.int .i64 ((rd_T31 t765 ((rd_T44 t768 x7_1).f0)).f0))).setCell ⟨gb778, 1, none⟩ (.int .i64 ((rd_T31 t765 ((rd_T44 t768 x7_1).f0)).f1))).setCell ⟨gb778, 2, none⟩ (.int .i64 ((rd_T31 t765 ((rd_T44 t768 x7_1).f0)).f2))).setCell ⟨gb778, 3, none⟩ (.int .i64 ((rd_T31 t765 ((rd_T44 t768 x7_1).f0)).f3))).setCell ⟨gb778, 4, none⟩ (.int .i64 ((rd_T31 t765 ((rd_T44 t768 x7_1).f0)).f4))).setCell ⟨gb779, 0, none⟩ (.int .i64 ((rd_T31 t765 ((rd_T44 t768 x7_1).f1)).f0))).setCell ⟨gb779, 1, none⟩ (.int .i64 ((rd_T31 t765 ((rd_T44 t768 x7_1).f1)).f1))).setCell ⟨gb779, 2, none⟩ (.int .i64 ((rd_T31 t765 ((rd_T44 t768 x7_1).f1)).f2))).setCell ⟨gb779, 3, none⟩ (.int .i64 ((rd_T31 t765 ((rd_T44 t768 x7_1).f1)).f3))).setCell ⟨gb779, 4, none⟩ (.int .i64 ((rd_T31 t765 ((rd_T44 t768 x7_1).f1)).f4))) = w91
    have n0_ : Aside0 (Kd.R k31 31 w91 w.heap.size (fun k_ => k_ ≠ gb778 ∧ k_ ≠ gb779) (.slice (some ad775) t765.length co9) t765) := ⟨by rw [← hw_]; refine zrR ?_; exact Kd.R_mono (zfR (zfR (zfR (zfR (zfR (zgR (zgR (zgR (zgR (zgR (Kd.R_mono (Kd.R_mono HO_4.1 (fun k_ hk => (⟨hk, hk.1⟩ : _ ∧ k_ ≠ gb778))) (fun k_ hk => (⟨hk, hk.1.2⟩ : _ ∧ k_ ≠ gb779))))))))))))) (fun _ hk => ⟨hk.1.1.1, hk.1.1.2⟩)⟩
    have n1_ : Aside0 (Kd.R k44 44 w91 w.heap.size (fun k_ => some k_ ≠ (.slice Ao13 t771.length co13 : Value).ownBlock) (.slice (some ad774) t768.length co12) t768) := ⟨by rw [← hw_]; refine zrR ?_; exact Kd.R_mono (zfR (zfR (zfR (zfR (zfR (zgR (zgR (zgR (zgR (zgR (Kd.R_types (Kd.R_types HO_5.1 BK778.1 (by decide)) BK779.1 (by decide)))))))))))) (fun _ hk => hk.1.1)⟩
    have n2_ : Aside0 (Kd.R k44 44 w91 w.heap.size (fun k_ => some k_ ≠ (.slice (some ad774) t768.length co12 : Value).ownBlock) (.slice Ao13 t771.length co13) t771) := ⟨by rw [← hw_]; refine zrR ?_; exact Kd.R_mono (zfR (zfR (zfR (zfR (zfR (zgR (zgR (zgR (zgR (zgR (Kd.R_types (Kd.R_types HO_6.1 BK778.1 (by decide)) BK779.1 (by decide)))))))))))) (fun _ hk => hk.1.1)⟩
    have n3_ : Aside0 (w91.heap[gb778]? = some (.cells #[.int .i64 ((rd_T31 t765 ((rd_T44 t768 x7_1).f0)).f0), .int .i64 ((rd_T31 t765 ((rd_T44 t768 x7_1).f0)).f1), .int .i64 ((rd_T31 t765 ((rd_T44 t768 x7_1).f0)).f2), .int .i64 ((rd_T31 t765 ((rd_T44 t768 x7_1).f0)).f3), .int .i64 ((rd_T31 t765 ((rd_T44 t768 x7_1).f0)).f4)] 31 (0, 0))) := ⟨by rw [← hw_]; exact zPq⟩
    have n4_ : Aside0 (w91.heap[gb779]? = some (.cells #[.int .i64 ((rd_T31 t765 ((rd_T44 t768 x7_1).f1)).f0), .int .i64 ((rd_T31 t765 ((rd_T44 t768 x7_1).f1)).f1), .int .i64 ((rd_T31 t765 ((rd_T44 t768 x7_1).f1)).f2), .int .i64 ((rd_T31 t765 ((rd_T44 t768 x7_1).f1)).f3), .int .i64 ((rd_T31 t765 ((rd_T44 t768 x7_1).f1)).f4)] 31 (0, 0))) := ⟨by rw [← hw_]; exact zPq⟩
    have n5_ : Aside0 (Below w.heap.size w w91) := ⟨by rw [← hw_]; exact zB1⟩
    (try clear HO_4)
    (try clear HO_5)
    (try clear HO_6)
    (try clear BK778)
    (try clear BK779)
    (try clear HB)
    clear hw_
    have HO_4 := n0_
    have HO_5 := n1_
    have HO_6 := n2_
    have BK778 := n3_
    have BK779 := n4_
    have HB := n5_
    clear n0_ n1_ n2_ n3_ n4_ n5_
    replace HO_4 := zM (Kd.R_drew HO_4.1)
    replace HO_5 := zM (Kd.R_drew HO_5.1)
    replace HO_6 := zM (Kd.R_drew HO_6.1)
    replace BK778 := zM (blk_drew BK778.1)
    replace BK779 := zM (blk_drew BK779.1)
    replace HB := zM (below_drew1 HB.1)
    obtain ⟨p780, q780, ad780, e780, hx780_0, hx780_1⟩ := zRd (at_T44 (Kd.R_reads' HO_5.1).2.2 x7_1)
    obtain rfl : ad774 = ad780 := (by injection e780)
    obtain ⟨p781, q781, ad781, e781, hx781_0, hx781_1⟩ := zRd (at_T44 (Kd.R_reads' HO_6.1).2.2 x7_1)
    cases e781
    obtain ⟨p782, q782, ad782, e782, hx782_0, hx782_1⟩ := zRd (at_T44 (Kd.R_reads' HO_5.1).2.2 x7_1)
    obtain rfl : ad774 = ad782 := (by injection e782)
    obtain ⟨p783, q783, ad783, e783, hx783_0, hx783_1⟩ := zRd (at_T44 (Kd.R_reads' HO_5.1).2.2 x7_1)
    obtain rfl : ad774 = ad783 := (by injection e783)
    refine start_ (n := 48) (S := zS3_17 gb778 t765 t768 x7_1 gb779 ad774 ad781 t771) (ds := []) zq17_22 (by kernel_rfl) rfl rfl ⟨(blk_cell BK778.1 0).trans rfl, (blk_cell BK778.1 1).trans rfl, (blk_cell BK778.1 2).trans rfl, (blk_cell BK778.1 3).trans rfl, (blk_cell BK778.1 4).trans rfl, (blk_cell BK779.1 0).trans rfl, (blk_cell BK779.1 1).trans rfl, (blk_cell BK779.1 2).trans rfl, (blk_cell BK779.1 3).trans rfl, (blk_cell BK779.1 4).trans rfl, hx780_0, hx780_1, hx781_0, hx781_1, hx782_0, hx782_1, hx783_0, hx783_1⟩ (fun hHeld => ?_); refine with_tabW laws_FnRaces.tab12 laws_FnRaces.bits12 (fun HT_ HW_ => ?_)
    generalize w91.drew = w92 at HO_4 HO_5 HO_6 BK778 BK779 HB hx780_0 hx780_1 hx781_0 hx781_1 hx782_0 hx782_1 hx783_0 hx783_1 hHeld ⊢
    refine zPu 0 ?_
    refine zPu 1 ?_
    refine zPu 2 ?_
    refine zPu 4 ?_
    refine zPu 5 ?_
    refine zPu 6 ?_
    refine zTk18 3 hHeld ?_
    refine zTk18 7 hHeld ?_
    refine zPu 8 ?_
    refine zPu 9 ?_
    refine zPu 10 ?_
    refine zPu 12 ?_
    refine zTk18 11 hHeld ?_
    refine zTk18 13 hHeld ?_
    refine zPu 14 ?_
    refine zPu 15 ?_
    refine zPu 16 ?_
    refine zPu 17 ?_
    refine zPu 19 ?_
    refine zTk18 18 hHeld ?_
    refine zTk18 20 hHeld ?_
    refine zPu 21 ?_
    refine zPu 22 ?_
    refine zPu 23 ?_
    refine zPu 24 ?_
    refine zPu 25 ?_
    refine zPu 26 ?_
    refine zPu 27 ?_
    refine zPu 28 ?_
    refine zPu 29 ?_
    refine zPu 31 ?_
    refine zPu 32 ?_
    refine zPu 33 ?_
    refine zPu 34 ?_
    refine zTk18 30 hHeld ?_
    refine zTk18 35 hHeld ?_
    refine zOn 36 (some 88) fun K hK => ?_
    refine zGs Try.func16 #[.int .i64 t764, .slice (some ad775) t765.length co9, .int .i64 ((rd_T44 t768 x7_1).f0), .int .i64 ((rd_T44 t768 x7_1).f1)] ?_
    with_reducible refine (impl_Knows.calls k1 t764 _ _ t765 ((rd_T44 t768 x7_1).f0) ((rd_T44 t768 x7_1).f1) false _ ?side1 ?side2 A56.1).mono ?_
    (case side1 => exact zC (Kd.R_reads' HO_4.1).2.2)
    (case side2 => exact (Kd.R_reads' HO_4.1).2.1)
    rintro e w93 ⟨rfl, hb⟩
    have HS10_ := (hb.cell (World.block_lt_of_cell? _ _ (hHeld.2.2.2.2.2.2.2.2.2.2.1))).trans (hHeld.2.2.2.2.2.2.2.2.2.2.1)
    have HS11_ := (hb.cell (World.block_lt_of_cell? _ _ (hHeld.2.2.2.2.2.2.2.2.2.2.2.1))).trans (hHeld.2.2.2.2.2.2.2.2.2.2.2.1)
    have HS12_ := (hb.cell (World.block_lt_of_cell? _ _ (hHeld.2.2.2.2.2.2.2.2.2.2.2.2.1))).trans (hHeld.2.2.2.2.2.2.2.2.2.2.2.2.1)
    have HS13_ := (hb.cell (World.block_lt_of_cell? _ _ (hHeld.2.2.2.2.2.2.2.2.2.2.2.2.2.1))).trans (hHeld.2.2.2.2.2.2.2.2.2.2.2.2.2.1)
    have HS14_ := (hb.cell (World.block_lt_of_cell? _ _ (hHeld.2.2.2.2.2.2.2.2.2.2.2.2.2.2.1))).trans (hHeld.2.2.2.2.2.2.2.2.2.2.2.2.2.2.1)
    have HS15_ := (hb.cell (World.block_lt_of_cell? _ _ (hHeld.2.2.2.2.2.2.2.2.2.2.2.2.2.2.2.1))).trans (hHeld.2.2.2.2.2.2.2.2.2.2.2.2.2.2.2.1)
    have HS16_ := (hb.cell (World.block_lt_of_cell? _ _ (hHeld.2.2.2.2.2.2.2.2.2.2.2.2.2.2.2.2.1))).trans (hHeld.2.2.2.2.2.2.2.2.2.2.2.2.2.2.2.2.1)
    have HS17_ := (hb.cell (World.block_lt_of_cell? _ _ (hHeld.2.2.2.2.2.2.2.2.2.2.2.2.2.2.2.2.2))).trans (hHeld.2.2.2.2.2.2.2.2.2.2.2.2.2.2.2.2.2)
    refine ⟨_, rfl, ?_⟩
    replace HO_4 := zM (Kd.R_below (zR HO_4.1) hb)
    replace HO_5 := zM (Kd.R_below (zR HO_5.1) hb)
    replace HO_6 := zM (Kd.R_below (zR HO_6.1) hb)
    replace BK778 := zM (blk_below (g := gb778) (o := .cells #[.int .i64 ((rd_T31 t765 ((rd_T44 t768 x7_1).f0)).f0), .int .i64 ((rd_T31 t765 ((rd_T44 t768 x7_1).f0)).f1), .int .i64 ((rd_T31 t765 ((rd_T44 t768 x7_1).f0)).f2), .int .i64 ((rd_T31 t765 ((rd_T44 t768 x7_1).f0)).f3), .int .i64 ((rd_T31 t765 ((rd_T44 t768 x7_1).f0)).f4)] 31 (0, 0)) (zK BK778.1) hb)
    replace BK779 := zM (blk_below (g := gb779) (o := .cells #[.int .i64 ((rd_T31 t765 ((rd_T44 t768 x7_1).f1)).f0), .int .i64 ((rd_T31 t765 ((rd_T44 t768 x7_1).f1)).f1), .int .i64 ((rd_T31 t765 ((rd_T44 t768 x7_1).f1)).f2), .int .i64 ((rd_T31 t765 ((rd_T44 t768 x7_1).f1)).f3), .int .i64 ((rd_T31 t765 ((rd_T44 t768 x7_1).f1)).f4)] 31 (0, 0)) (zK BK779.1) hb)
    replace HB := zM (below_step zB1 hb)
    refine hK.out _ _ ⟨(blk_cell BK778.1 0).trans rfl, (blk_cell BK778.1 1).trans rfl, (blk_cell BK778.1 2).trans rfl, (blk_cell BK778.1 3).trans rfl, (blk_cell BK778.1 4).trans rfl, (blk_cell BK779.1 0).trans rfl, (blk_cell BK779.1 1).trans rfl, (blk_cell BK779.1 2).trans rfl, (blk_cell BK779.1 3).trans rfl, (blk_cell BK779.1 4).trans rfl, HS10_, HS11_, HS12_, HS13_, HS14_, HS15_, HS16_, HS17_⟩ (fun hHeld => ?_)
    clear hK K
    refine zNo ?_
    refine zPu 37 ?_
    refine zPu 38 ?_
    refine zPu 39 ?_
    refine zTk18 40 hHeld ?_
    refine zPu 41 ?_
    refine zPu 42 ?_
    refine zPu 43 ?_
    refine zTk18 44 hHeld ?_
    refine zPu 45 ?_
    refine zPu 46 ?_
    refine zPu 47 ?_
    refine done_ (done_of HT_.1 (by kernel_rfl)) ?_
    try go_wp2
    go_ret
    exact ⟨zE, zB1⟩
   rw [if_neg c76] at H
   have c76b0 := decide_eq_false c76
   clear c76
   have H' := zM H
   clear H
   try go_wp2
   replace HO_4 := zM (Kd.R_drew HO_4.1)
   replace HO_5 := zM (Kd.R_drew HO_5.1)
   replace HO_6 := zM (Kd.R_drew HO_6.1)
   replace HB := zM (below_drew1 HB.1)
   obtain ⟨p774, q774, ad774, e774, hx774_0, hx774_1⟩ := zRd (at_T44 (Kd.R_reads' HO_5.1).2.2 x7_1)
   cases e774
   obtain ⟨p775, q775, ad775, e775, hx775_0, hx775_1, hx775_2, hx775_3, hx775_4⟩ := zRd (at_T31 (Kd.R_reads' HO_4.1).2.2 ((rd_T44 t768 x7_1).f0))
   cases e775
   obtain ⟨p776, q776, ad776, e776, hx776_0, hx776_1⟩ := zRd (at_T44 (Kd.R_reads' HO_5.1).2.2 x7_1)
   obtain rfl : ad774 = ad776 := (by injection e776)
   obtain ⟨p777, q777, ad777, e777, hx777_0, hx777_1, hx777_2, hx777_3, hx777_4⟩ := zRd (at_T31 (Kd.R_reads' HO_4.1).2.2 ((rd_T44 t768 x7_1).f1))
   obtain rfl : ad775 = ad777 := (by injection e777)
   refine start_ (n := 20) (S := zS1_17 ad774 x7_1 t768 ad775 t765) (ds := []) zq17_0 (by kernel_rfl) rfl rfl ⟨hx774_0, hx774_1, hx775_0, hx775_1, hx775_2, hx775_3, hx775_4, hx776_0, hx776_1, hx777_0, hx777_1, hx777_2, hx777_3, hx777_4⟩ (fun hHeld => ?_); refine with_tabW laws_FnRaces.tab11 laws_FnRaces.bits11 (fun HT_ HW_ => ?_)
   generalize wr.drew = w94 at HO_4 HO_5 HO_6 HB hx774_0 hx774_1 hx775_0 hx775_1 hx775_2 hx775_3 hx775_4 hx776_0 hx776_1 hx777_0 hx777_1 hx777_2 hx777_3 hx777_4 hHeld ⊢
   refine zPu 0 ?_
   refine zPu 1 ?_
   refine zPu 2 ?_
   refine zPu 3 ?_
   refine zPu 4 ?_
   refine zPu 8 ?_
   refine zPu 9 ?_
   refine zPu 10 ?_
   refine zPu 11 ?_
   refine zPu 12 ?_
   refine zTk14 5 hHeld ?_
   refine zPu 6 ?_
   refine zTk14 7 hHeld ?_
   refine zTk14 13 hHeld ?_
   refine zPu 14 ?_
   refine zTk14 15 hHeld ?_
   refine join_ (σ := Nat × Nat) 2 zq17_17 (fun s_ => [(8, .pointer (some ⟨s_.1, 0, none⟩)), (9, .pointer (some ⟨s_.2, 0, none⟩))]) (fun s_ w' => (zS1_17 ad774 x7_1 t768 ad775 t765 w') ∧ (Kd.R k31 31 w' w.heap.size (fun k_ => k_ ≠ s_.1 ∧ k_ ≠ s_.2) (.slice (some ad775) t765.length co9) t765) ∧ (Kd.R k44 44 w' w.heap.size (fun k_ => some k_ ≠ (.slice Ao13 t771.length co13 : Value).ownBlock) (.slice (some ad774) t768.length co12) t768) ∧ (Kd.R k44 44 w' w.heap.size (fun k_ => some k_ ≠ (.slice (some ad774) t768.length co12 : Value).ownBlock) (.slice Ao13 t771.length co13) t771) ∧ (w'.heap[s_.1]? = some (.cells #[.int .i64 0, .int .i64 0, .int .i64 0, .int .i64 0, .int .i64 0] 31 (0, 0))) ∧ (w'.heap[s_.2]? = some (.cells #[.int .i64 0, .int .i64 0, .int .i64 0, .int .i64 0, .int .i64 0] 31 (0, 0))) ∧ (w.heap.size ≤ s_.1) ∧ (w.heap.size ≤ s_.1) ∧ (s_.2 ≠ s_.1) ∧ (s_.1 ≠ s_.2) ∧ (w.heap.size ≤ s_.2) ∧ (w.heap.size ≤ s_.2) ∧ (Below w.heap.size w w')) ?_ ?_
   rotate_left
   ·intro hCont
    refine two_ (i := 16) (j := 17) (Ni := some 8) (Nj := some 9) zq17_18 zq17_19 rfl rfl rfl rfl (two_of HT_.1 (by kernel_rfl)) (by decide) (by decide) (fun K hK => ?_) (fun K hK => ?_)
    ·refine zBs 8 31 #[.int .i64 0, .int .i64 0, .int .i64 0, .int .i64 0, .int .i64 0] ?_
     intro gb778 hg w95 hbox hb
     replace HO_4 := zM (Kd.R_below (Kd.R_elderB (zR HO_4.1) gb778 (Nat.le_of_eq hg.symm)) hb)
     replace HO_5 := zM (Kd.R_below (zR HO_5.1) hb)
     replace HO_6 := zM (Kd.R_below (zR HO_6.1) hb)
     replace BK778 := zM hbox
     replace GW778 := zM (zW hg (below_size zB1))
     replace GE778 := zM (zW hg (below_size zB1))
     replace HB := zM (below_step zB1 hb)
     refine hK.out _ _ zCs fun hHeld => ?_
     clear hK K
     refine zNo ?_
     refine zOn 17 (some 9) fun K hK => ?_
     refine zBs 9 31 #[.int .i64 0, .int .i64 0, .int .i64 0, .int .i64 0, .int .i64 0] ?_
     intro gb779 hg w96 hbox hb
     replace HO_4 := zM (Kd.R_below (Kd.R_elderB (zR HO_4.1) gb779 (Nat.le_of_eq hg.symm)) hb)
     replace HO_5 := zM (Kd.R_below (zR HO_5.1) hb)
     replace HO_6 := zM (Kd.R_below (zR HO_6.1) hb)
     replace BK779 := zM hbox
     replace GW779 := zM (zW hg (below_size zB1))
     replace GE779 := zM (zW hg (below_size zB1))
     replace HB := zM (below_step zB1 hb)
     replace NB778_779 := zM ((zn BK778.1 hg : gb778 ≠ gb779))
     replace NB779_778 := zM ((zm BK778.1 hg : gb779 ≠ gb778))
     replace BK778 := zM (zb BK778.1 hb)
     refine hK.out _ _ zCs fun hHeld => ?_
     clear hK K
     refine zNo ?_
     exact norm_ zNr (hCont (gb778, gb779) _ ⟨hHeld, (by refine zrR ?_; exact Kd.R_mono HO_4.1 (fun _ hk => ⟨hk.1.2, hk.2⟩)), (zR HO_5.1), (zR HO_6.1), (zK BK778.1), (zK BK779.1), GW778.1, GE778.1, NB779_778.1, NB778_779.1, GW779.1, GE779.1, zB1⟩)
    ·refine zBs 9 31 #[.int .i64 0, .int .i64 0, .int .i64 0, .int .i64 0, .int .i64 0] ?_
     intro gb779 hg w95 hbox hb
     replace HO_4 := zM (Kd.R_below (Kd.R_elderB (zR HO_4.1) gb779 (Nat.le_of_eq hg.symm)) hb)
     replace HO_5 := zM (Kd.R_below (zR HO_5.1) hb)
     replace HO_6 := zM (Kd.R_below (zR HO_6.1) hb)
     replace BK779 := zM hbox
     replace GW779 := zM (zW hg (below_size zB1))
     replace GE779 := zM (zW hg (below_size zB1))
     replace HB := zM (below_step zB1 hb)
     refine hK.out _ _ zCs fun hHeld => ?_
     clear hK K
     refine zNo ?_
     refine zOn 16 (some 8) fun K hK => ?_
     refine zBs 8 31 #[.int .i64 0, .int .i64 0, .int .i64 0, .int .i64 0, .int .i64 0] ?_
     intro gb778 hg w96 hbox hb
     replace HO_4 := zM (Kd.R_below (Kd.R_elderB (zR HO_4.1) gb778 (Nat.le_of_eq hg.symm)) hb)
     replace HO_5 := zM (Kd.R_below (zR HO_5.1) hb)
     replace HO_6 := zM (Kd.R_below (zR HO_6.1) hb)
     replace BK778 := zM hbox
     replace GW778 := zM (zW hg (below_size zB1))
     replace GE778 := zM (zW hg (below_size zB1))
     replace HB := zM (below_step zB1 hb)
     replace NB779_778 := zM ((zn BK779.1 hg : gb779 ≠ gb778))
     replace NB778_779 := zM ((zm BK779.1 hg : gb778 ≠ gb779))
     replace BK779 := zM (zb BK779.1 hb)
     refine hK.out _ _ zCs fun hHeld => ?_
     clear hK K
     refine zNo ?_
     exact norm_ zNr (hCont (gb778, gb779) _ ⟨hHeld, (by refine zrR ?_; exact Kd.R_mono HO_4.1 (fun _ hk => ⟨hk.2, hk.1.2⟩)), (zR HO_5.1), (zR HO_6.1), (zK BK778.1), (zK BK779.1), GW778.1, GE778.1, NB779_778.1, NB778_779.1, GW779.1, GE779.1, zB1⟩)
   rintro ⟨gb778, gb779⟩ w97 ⟨hS_, h0_, h1_, h2_, h3_, h4_, h5_, h6_, h7_, h8_, h9_, h10_, h11_⟩
   replace HO_4 := zM h0_
   replace HO_5 := zM h1_
   replace HO_6 := zM h2_
   replace BK778 := zM h3_
   replace BK779 := zM h4_
   replace GW778 := zM h5_
   replace GE778 := zM h6_
   replace NB779_778 := zM h7_
   replace NB778_779 := zM h8_
   replace GW779 := zM h9_
   replace GE779 := zM h10_
   replace HB := zM h11_
   have hHeld := hS_
   refine zNp ?_
   refine zOn 18 none fun K hK => ?_
   obtain ⟨hs98, hfs98⟩ := zHs BK778.1 0
   have hns98_1 := NB779_778.1
   have hms98_1 := NB778_779.1
   obtain ⟨hs99, hfs99⟩ := zHs BK778.1 1
   have hns99_1 := NB779_778.1
   have hms99_1 := NB778_779.1
   obtain ⟨hs100, hfs100⟩ := zHs BK778.1 2
   have hns100_1 := NB779_778.1
   have hms100_1 := NB778_779.1
   obtain ⟨hs101, hfs101⟩ := zHs BK778.1 3
   have hns101_1 := NB779_778.1
   have hms101_1 := NB778_779.1
   obtain ⟨hs102, hfs102⟩ := zHs BK778.1 4
   have hns102_1 := NB779_778.1
   have hms102_1 := NB778_779.1
   refine skip_ (w1 := ?_) (by rfl) rfl ?_ ?_
   rotate_left
   ·go_simp
    rfl
   have f0_ := zM (Kd.own_blk (Kd.R_ne HO_5.1 BK778.1 (by decide)))
   have f1_ := zM (Kd.own_blk (Kd.R_away HO_4.1 (fun _ hk => hk.1)))
   refine hK.out _ _ zCu fun hHeld => ?_
   clear hK K
   refine zOn 19 none fun K hK => ?_
   obtain ⟨hs103, hfs103⟩ := zHs BK779.1 0
   have hns103_0 := NB778_779.1
   have hms103_0 := NB779_778.1
   obtain ⟨hs104, hfs104⟩ := zHs BK779.1 1
   have hns104_0 := NB778_779.1
   have hms104_0 := NB779_778.1
   obtain ⟨hs105, hfs105⟩ := zHs BK779.1 2
   have hns105_0 := NB778_779.1
   have hms105_0 := NB779_778.1
   obtain ⟨hs106, hfs106⟩ := zHs BK779.1 3
   have hns106_0 := NB778_779.1
   have hms106_0 := NB779_778.1
   obtain ⟨hs107, hfs107⟩ := zHs BK779.1 4
   have hns107_0 := NB778_779.1
   have hms107_0 := NB779_778.1
   refine skip_ (w1 := ?_) (by rfl) rfl ?_ ?_
   rotate_left
   ·go_simp
    rfl
   have f0_ := zM (Kd.own_blk (Kd.R_ne HO_5.1 BK779.1 (by decide)))
   have f1_ := zM (Kd.own_blk (Kd.R_away HO_4.1 (fun _ hk => hk.2)))
   refine hK.out _ _ zCu fun hHeld => ?_
   clear hK K
   refine done_ (done_of HT_.1 (by kernel_rfl)) ?_
   try go_wp2
   generalize hw_ : ((((((((((w97.setCell ⟨gb778, 0, none⟩ (.int .i64 ((rd_T31 t765 ((rd_T44 t768 x7_1).f0)).f0))).setCell ⟨gb778, 1, none⟩ (.int .i64 ((rd_T31 t765 ((rd_T44 t768 x7_1).f0)).f1))).setCell ⟨gb778, 2, none⟩ (.int .i64 ((rd_T31 t765 ((rd_T44 t768 x7_1).f0)).f2))).setCell ⟨gb778, 3, none⟩ (.int .i64 ((rd_T31 t765 ((rd_T44 t768 x7_1).f0)).f3))).setCell ⟨gb778, 4, none⟩ (.int .i64 ((rd_T31 t765 ((rd_T44 t768 x7_1).f0)).f4))).setCell ⟨gb779, 0, none⟩ (.int .i64 ((rd_T31 t765 ((rd_T44 t768 x7_1).f1)).f0))).setCell ⟨gb779, 1, none⟩ (.int .i64 ((rd_T31 t765 ((rd_T44 t768 x7_1).f1)).f1))).setCell ⟨gb779, 2, none⟩ (.int .i64 ((rd_T31 t765 ((rd_T44 t768 x7_1).f1)).f2))).setCell ⟨gb779, 3, none⟩ (.int .i64 ((rd_T31 t765 ((rd_T44 t768 x7_1).f1)).f3))).setCell ⟨gb779, 4, none⟩ (.int .i64 ((rd_T31 t765 ((rd_T44 t768 x7_1).f1)).f4))) = w108
   have n0_ : Aside0 (Kd.R k31 31 w108 w.heap.size (fun k_ => k_ ≠ gb778 ∧ k_ ≠ gb779) (.slice (some ad775) t765.length co9) t765) := ⟨by rw [← hw_]; refine zrR ?_; exact Kd.R_mono (zfR (zfR (zfR (zfR (zfR (zgR (zgR (zgR (zgR (zgR (Kd.R_mono (Kd.R_mono HO_4.1 (fun k_ hk => (⟨hk, hk.1⟩ : _ ∧ k_ ≠ gb778))) (fun k_ hk => (⟨hk, hk.1.2⟩ : _ ∧ k_ ≠ gb779))))))))))))) (fun _ hk => ⟨hk.1.1.1, hk.1.1.2⟩)⟩
   have n1_ : Aside0 (Kd.R k44 44 w108 w.heap.size (fun k_ => some k_ ≠ (.slice Ao13 t771.length co13 : Value).ownBlock) (.slice (some ad774) t768.length co12) t768) := ⟨by rw [← hw_]; refine zrR ?_; exact Kd.R_mono (zfR (zfR (zfR (zfR (zfR (zgR (zgR (zgR (zgR (zgR (Kd.R_types (Kd.R_types HO_5.1 BK778.1 (by decide)) BK779.1 (by decide)))))))))))) (fun _ hk => hk.1.1)⟩
   have n2_ : Aside0 (Kd.R k44 44 w108 w.heap.size (fun k_ => some k_ ≠ (.slice (some ad774) t768.length co12 : Value).ownBlock) (.slice Ao13 t771.length co13) t771) := ⟨by rw [← hw_]; refine zrR ?_; exact Kd.R_mono (zfR (zfR (zfR (zfR (zfR (zgR (zgR (zgR (zgR (zgR (Kd.R_types (Kd.R_types HO_6.1 BK778.1 (by decide)) BK779.1 (by decide)))))))))))) (fun _ hk => hk.1.1)⟩
   have n3_ : Aside0 (w108.heap[gb778]? = some (.cells #[.int .i64 ((rd_T31 t765 ((rd_T44 t768 x7_1).f0)).f0), .int .i64 ((rd_T31 t765 ((rd_T44 t768 x7_1).f0)).f1), .int .i64 ((rd_T31 t765 ((rd_T44 t768 x7_1).f0)).f2), .int .i64 ((rd_T31 t765 ((rd_T44 t768 x7_1).f0)).f3), .int .i64 ((rd_T31 t765 ((rd_T44 t768 x7_1).f0)).f4)] 31 (0, 0))) := ⟨by rw [← hw_]; exact zPq⟩
   have n4_ : Aside0 (w108.heap[gb779]? = some (.cells #[.int .i64 ((rd_T31 t765 ((rd_T44 t768 x7_1).f1)).f0), .int .i64 ((rd_T31 t765 ((rd_T44 t768 x7_1).f1)).f1), .int .i64 ((rd_T31 t765 ((rd_T44 t768 x7_1).f1)).f2), .int .i64 ((rd_T31 t765 ((rd_T44 t768 x7_1).f1)).f3), .int .i64 ((rd_T31 t765 ((rd_T44 t768 x7_1).f1)).f4)] 31 (0, 0))) := ⟨by rw [← hw_]; exact zPq⟩
   have n5_ : Aside0 (Below w.heap.size w w108) := ⟨by rw [← hw_]; exact zB1⟩
   (try clear HO_4)
   (try clear HO_5)
   (try clear HO_6)
   (try clear BK778)
   (try clear BK779)
   (try clear HB)
   clear hw_
   have HO_4 := n0_
   have HO_5 := n1_
   have HO_6 := n2_
   have BK778 := n3_
   have BK779 := n4_
   have HB := n5_
   clear n0_ n1_ n2_ n3_ n4_ n5_
   replace HO_4 := zM (Kd.R_drew HO_4.1)
   replace HO_5 := zM (Kd.R_drew HO_5.1)
   replace HO_6 := zM (Kd.R_drew HO_6.1)
   replace BK778 := zM (blk_drew BK778.1)
   replace BK779 := zM (blk_drew BK779.1)
   replace HB := zM (below_drew1 HB.1)
   obtain ⟨p780, q780, ad780, e780, hx780_0, hx780_1⟩ := zRd (at_T44 (Kd.R_reads' HO_5.1).2.2 x7_1)
   obtain rfl : ad774 = ad780 := (by injection e780)
   obtain ⟨p781, q781, ad781, e781, hx781_0, hx781_1⟩ := zRd (at_T44 (Kd.R_reads' HO_6.1).2.2 x7_1)
   cases e781
   obtain ⟨p782, q782, ad782, e782, hx782_0, hx782_1⟩ := zRd (at_T44 (Kd.R_reads' HO_5.1).2.2 x7_1)
   obtain rfl : ad774 = ad782 := (by injection e782)
   obtain ⟨p783, q783, ad783, e783, hx783_0, hx783_1⟩ := zRd (at_T44 (Kd.R_reads' HO_5.1).2.2 x7_1)
   obtain rfl : ad774 = ad783 := (by injection e783)
   refine start_ (n := 48) (S := zS3_17 gb778 t765 t768 x7_1 gb779 ad774 ad781 t771) (ds := []) zq17_22 (by kernel_rfl) rfl rfl ⟨(blk_cell BK778.1 0).trans rfl, (blk_cell BK778.1 1).trans rfl, (blk_cell BK778.1 2).trans rfl, (blk_cell BK778.1 3).trans rfl, (blk_cell BK778.1 4).trans rfl, (blk_cell BK779.1 0).trans rfl, (blk_cell BK779.1 1).trans rfl, (blk_cell BK779.1 2).trans rfl, (blk_cell BK779.1 3).trans rfl, (blk_cell BK779.1 4).trans rfl, hx780_0, hx780_1, hx781_0, hx781_1, hx782_0, hx782_1, hx783_0, hx783_1⟩ (fun hHeld => ?_); refine with_tabW laws_FnRaces.tab12 laws_FnRaces.bits12 (fun HT_ HW_ => ?_)
   generalize w108.drew = w109 at HO_4 HO_5 HO_6 BK778 BK779 HB hx780_0 hx780_1 hx781_0 hx781_1 hx782_0 hx782_1 hx783_0 hx783_1 hHeld ⊢
   refine zPu 0 ?_
   refine zPu 1 ?_
   refine zPu 2 ?_
   refine zPu 4 ?_
   refine zPu 5 ?_
   refine zPu 6 ?_
   refine zTk18 3 hHeld ?_
   refine zTk18 7 hHeld ?_
   refine zPu 8 ?_
   refine zPu 9 ?_
   refine zPu 10 ?_
   refine zPu 12 ?_
   refine zTk18 11 hHeld ?_
   refine zTk18 13 hHeld ?_
   refine zPu 14 ?_
   refine zPu 15 ?_
   refine zPu 16 ?_
   refine zPu 17 ?_
   refine zPu 19 ?_
   refine zTk18 18 hHeld ?_
   refine zTk18 20 hHeld ?_
   refine zPu 21 ?_
   refine zPu 22 ?_
   refine zPu 23 ?_
   refine zPu 24 ?_
   refine zPu 25 ?_
   refine zPu 26 ?_
   refine zPu 27 ?_
   refine zPu 28 ?_
   refine zPu 29 ?_
   refine zPu 31 ?_
   refine zPu 32 ?_
   refine zPu 33 ?_
   refine zPu 34 ?_
   refine zTk18 30 hHeld ?_
   refine zTk18 35 hHeld ?_
   refine zOn 36 (some 88) fun K hK => ?_
   refine zGs Try.func16 #[.int .i64 t764, .slice (some ad775) t765.length co9, .int .i64 ((rd_T44 t768 x7_1).f0), .int .i64 ((rd_T44 t768 x7_1).f1)] ?_
   with_reducible refine (impl_Knows.calls k1 t764 _ _ t765 ((rd_T44 t768 x7_1).f0) ((rd_T44 t768 x7_1).f1) false _ ?side1 ?side2 A56.1).mono ?_
   (case side1 => exact zC (Kd.R_reads' HO_4.1).2.2)
   (case side2 => exact (Kd.R_reads' HO_4.1).2.1)
   rintro e w110 ⟨rfl, hb⟩
   have HS10_ := (hb.cell (World.block_lt_of_cell? _ _ (hHeld.2.2.2.2.2.2.2.2.2.2.1))).trans (hHeld.2.2.2.2.2.2.2.2.2.2.1)
   have HS11_ := (hb.cell (World.block_lt_of_cell? _ _ (hHeld.2.2.2.2.2.2.2.2.2.2.2.1))).trans (hHeld.2.2.2.2.2.2.2.2.2.2.2.1)
   have HS12_ := (hb.cell (World.block_lt_of_cell? _ _ (hHeld.2.2.2.2.2.2.2.2.2.2.2.2.1))).trans (hHeld.2.2.2.2.2.2.2.2.2.2.2.2.1)
   have HS13_ := (hb.cell (World.block_lt_of_cell? _ _ (hHeld.2.2.2.2.2.2.2.2.2.2.2.2.2.1))).trans (hHeld.2.2.2.2.2.2.2.2.2.2.2.2.2.1)
   have HS14_ := (hb.cell (World.block_lt_of_cell? _ _ (hHeld.2.2.2.2.2.2.2.2.2.2.2.2.2.2.1))).trans (hHeld.2.2.2.2.2.2.2.2.2.2.2.2.2.2.1)
   have HS15_ := (hb.cell (World.block_lt_of_cell? _ _ (hHeld.2.2.2.2.2.2.2.2.2.2.2.2.2.2.2.1))).trans (hHeld.2.2.2.2.2.2.2.2.2.2.2.2.2.2.2.1)
   have HS16_ := (hb.cell (World.block_lt_of_cell? _ _ (hHeld.2.2.2.2.2.2.2.2.2.2.2.2.2.2.2.2.1))).trans (hHeld.2.2.2.2.2.2.2.2.2.2.2.2.2.2.2.2.1)
   have HS17_ := (hb.cell (World.block_lt_of_cell? _ _ (hHeld.2.2.2.2.2.2.2.2.2.2.2.2.2.2.2.2.2))).trans (hHeld.2.2.2.2.2.2.2.2.2.2.2.2.2.2.2.2.2)
   refine ⟨_, rfl, ?_⟩
   replace HO_4 := zM (Kd.R_below (zR HO_4.1) hb)
   replace HO_5 := zM (Kd.R_below (zR HO_5.1) hb)
   replace HO_6 := zM (Kd.R_below (zR HO_6.1) hb)
   replace BK778 := zM (blk_below (g := gb778) (o := .cells #[.int .i64 ((rd_T31 t765 ((rd_T44 t768 x7_1).f0)).f0), .int .i64 ((rd_T31 t765 ((rd_T44 t768 x7_1).f0)).f1), .int .i64 ((rd_T31 t765 ((rd_T44 t768 x7_1).f0)).f2), .int .i64 ((rd_T31 t765 ((rd_T44 t768 x7_1).f0)).f3), .int .i64 ((rd_T31 t765 ((rd_T44 t768 x7_1).f0)).f4)] 31 (0, 0)) (zK BK778.1) hb)
   replace BK779 := zM (blk_below (g := gb779) (o := .cells #[.int .i64 ((rd_T31 t765 ((rd_T44 t768 x7_1).f1)).f0), .int .i64 ((rd_T31 t765 ((rd_T44 t768 x7_1).f1)).f1), .int .i64 ((rd_T31 t765 ((rd_T44 t768 x7_1).f1)).f2), .int .i64 ((rd_T31 t765 ((rd_T44 t768 x7_1).f1)).f3), .int .i64 ((rd_T31 t765 ((rd_T44 t768 x7_1).f1)).f4)] 31 (0, 0)) (zK BK779.1) hb)
   replace HB := zM (below_step zB1 hb)
   refine hK.out _ _ ⟨(blk_cell BK778.1 0).trans rfl, (blk_cell BK778.1 1).trans rfl, (blk_cell BK778.1 2).trans rfl, (blk_cell BK778.1 3).trans rfl, (blk_cell BK778.1 4).trans rfl, (blk_cell BK779.1 0).trans rfl, (blk_cell BK779.1 1).trans rfl, (blk_cell BK779.1 2).trans rfl, (blk_cell BK779.1 3).trans rfl, (blk_cell BK779.1 4).trans rfl, HS10_, HS11_, HS12_, HS13_, HS14_, HS15_, HS16_, HS17_⟩ (fun hHeld => ?_)
   clear hK K
   refine zNo ?_
   refine zPu 37 ?_
   refine zPu 38 ?_
   refine zPu 39 ?_
   refine zTk18 40 hHeld ?_
   refine zPu 41 ?_
   refine zPu 42 ?_
   refine zPu 43 ?_
   refine zTk18 44 hHeld ?_
   refine zPu 45 ?_
   refine zPu 46 ?_
   refine zPu 47 ?_
   refine done_ (done_of HT_.1 (by kernel_rfl)) ?_
   try go_wp2
   go_roundg k1
   case measure => have := HK1.1; omega
   case rel => exact ⟨(wrap64 (x7_1 + 1)), zJJ, H', ⟨by have := HK1.1; omega⟩, ⟨by refine zrR ?_; exact Kd.R_mono HO_4.1 (fun _ hk => trivial)⟩, ⟨zR HO_5.1⟩, ⟨zR HO_6.1⟩, ⟨zB1⟩⟩

/-- THE ONE PURE STATEMENT of laws_FnRaces: yours. -/
def laws_FnRaces.Pure : Prop := ∀ (l0 : List Int), l0.length ≤ maxLen → l0.length * 1 ≤ 140737488351232 → (∀ x ∈ l0, (Lit.int .u8 x).wf = true) → ∃ k, laws_FnRaces.f k l0 = some true
theorem laws_FnRaces.walk (P : laws_FnRaces.Pure) (a0 : Option Addr) (len0 cap0 : Nat) (z0 : List Int) (w : World) (w0 : (a0 = none ∧ len0 = 0 ∧ cap0 = 0 ∧ z0 = []) ∨ ∃ x, a0 = some x ∧ len0 ≤ cap0 ∧ cap0 ≤ maxLen ∧ z0.length = cap0 ∧ (∀ i, i < z0.length → w.cell? (x.add i) = some (.int .u8 (z0.getD i 0))) ∧ ∀ n ∈ z0, (Lit.int .u8 n).wf = true) (y0 : len0 * 1 ≤ 140737488351232) :
  Calls Try.prog 6 #[.slice a0 len0 cap0] w fun e w' => e = .returned (.bool true) ∧ Below w.heap.size w w' := by
 obtain ⟨l0, rfl, hr0, hm0, hw0, hc0⟩ := ReadsInt.ofRowC w0
 obtain ⟨k, h⟩ := P l0 hm0 y0 hw0
 refine (laws_FnRaces.calls k _ _ l0 true w (Kd.C_of_reads (d := (0 : Int)) (h1 := fun _ => rfl) hr0) hc0 h).mono ?_
 rintro e w' ⟨rfl, hd⟩
 exact ⟨rfl, hd⟩

end Go.Proofs.Ytgbjengnkbomoaa.PFnRaces
