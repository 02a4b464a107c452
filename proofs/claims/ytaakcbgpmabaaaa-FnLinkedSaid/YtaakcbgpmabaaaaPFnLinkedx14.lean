-- made by wip/tools/myprint.py out of the seat's translation
import Derived.Test.YtaakcbgpmabaaaaPFnLinkedx0
import Derived.Test.YtaakcbgpmabaaaaPFnLinkedx1
import Derived.Test.YtaakcbgpmabaaaaPFnLinkedx2
import Derived.Test.YtaakcbgpmabaaaaPFnLinkedx5
import Derived.Test.YtaakcbgpmabaaaaPFnLinkedx7
import Derived.Test.YtaakcbgpmabaaaaPFnLinkedx8
import Derived.Test.YtaakcbgpmabaaaaPFnLinkedx9
import Derived.Test.YtaakcbgpmabaaaaPFnLinkedx10
import Derived.Test.YtaakcbgpmabaaaaPFnLinkedx11
import Derived.Test.YtaakcbgpmabaaaaPFnLinkedx12
import Derived.Test.YtaakcbgpmabaaaaPFnLinkedx13
namespace Go.Proofs.Ytaakcbgpmabaaaa.PFnLinked
open Go.RowKit Go.Proofs.YtaakcbgpmabaaaaW.PrintWords Go.Proofs.YtaakcbgpmabaaaaW.PrintLast Go.Proofs.YtaakcbgpmabaaaaW.PrintMore
attribute [local go_sem] max2_int min2_int max_two min_two max_three min_three max_four min_four   -- for this text's walks alone
set_option linter.unusedVariables false
set_option linter.unusedSimpArgs false
set_option maxHeartbeats 8000000
set_option maxRecDepth 100000
abbrev zq14_0 : Array Bool := #[false, false, false, false, false, false, false, false, false, false, false, false, false, false, false, false, false, false, false, false, false, false, false, false, false, false, false, false, false, false, false, false, false, false, false, false]

attribute [local go_sem high] eqA57
/-! ### laws_FnLinked: function 4 -/
mutual
def laws_FnLinked.j0 : Nat → List (S49) → List Int → Bool → Bool → Option (Bool)
 | 0, _, _, _, _ => none
 | k + 1, x3, x4, x5, x92 => if x92 = true then (some false) else (if x5 = true then ((impl_Layout.f k x3).bind fun bt535 => (if bt535.2 = true then (laws_FnLinked.j1 k x3 x4 bt535.1 ((x4.length : Int) != 24)) else (laws_FnLinked.j1 k x3 x4 bt535.1 true))) else (some ((x4.length : Int) == 0)))
def laws_FnLinked.j1 : Nat → List (S49) → List Int → List Int → Bool → Option (Bool)
 | 0, _, _, _, _ => none
 | k + 1, x3, x4, x16, x109 => if x109 = true then (some false) else (laws_FnLinked.l0 k x3 x4 x16 0)
def laws_FnLinked.l0 : Nat → List (S49) → List Int → List Int → Int → Option (Bool)
 | 0, _, _, _, _ => none
 | k + 1, x3, x4, x16, x18 => if x18 < (x3.length : Int) then (laws_FnLinked.l1 k x3 x4 x16 x18 0) else (some true)
def laws_FnLinked.l1 : Nat → List (S49) → List Int → List Int → Int → Int → Option (Bool)
 | 0, _, _, _, _, _ => none
 | k + 1, x3, x4, x16, x18, x19 => if 0 ≤ x18 then (if x18 < (x3.length : Int) then (if x19 < (((rd_T49 x3 x18).f1).length : Int) then (if x18 < (x16.length : Int) then (if 0 ≤ (wrap64 ((rd x16 x18) + x19)) then (if (wrap64 ((rd x16 x18) + x19)) < (x4.length : Int) then ((impl_Decode.f (rd x4 (wrap64 ((rd x16 x18) + x19)))).bind fun bt542 => (if 0 ≤ x19 then (laws_FnLinked.l2 k x3 x4 x16 x18 x19 bt542.2.2.2.2.2 0 bt542.1 bt542.2.1 bt542.2.2.1 bt542.2.2.2.1 bt542.2.2.2.2.1 ((rd_T57 ((rd_T49 x3 x18).f1) x19).f0) ((rd_T57 ((rd_T49 x3 x18).f1) x19).f1) ((rd_T57 ((rd_T49 x3 x18).f1) x19).f2) ((rd_T57 ((rd_T49 x3 x18).f1) x19).f3) ((rd_T57 ((rd_T49 x3 x18).f1) x19).f4)) else (none))) else (none)) else (none)) else (none)) else (laws_FnLinked.l0 k x3 x4 x16 (wrap64 (x18 + 1)))) else (none)) else (none)
def laws_FnLinked.l2 : Nat → List (S49) → List Int → List Int → Int → Int → Bool → Int → Int → Int → Int → Int → Int → Int → Int → Int → Int → Int → Option (Bool)
 | 0, _, _, _, _, _, _, _, _, _, _, _, _, _, _, _, _, _ => none
 | k + 1, x3, x4, x16, x18, x19, x21, x23, x549000, x549001, x549002, x549003, x549004, x552000, x552001, x552002, x552003, x552004 => if 0 ≤ x18 then (if x18 < (x3.length : Int) then (if x23 < (((rd_T49 x3 x18).f2).length : Int) then (if 0 ≤ x23 then (if ((rd_T61 ((rd_T49 x3 x18).f2) x23).f0) = x19 then ((impl_PartAt.f x3 ((rd_T61 ((rd_T49 x3 x18).f2) x23).f1)).bind fun t557 => (if 0 ≤ t557 then (if t557 < (x16.length : Int) then (laws_FnLinked.l2 k x3 x4 x16 x18 x19 x21 (wrap64 (x23 + 1)) x549000 x549001 x549002 x549003 x549004 x552000 x552001 x552002 x552003 (rd x16 t557)) else (none)) else (none))) else (laws_FnLinked.l2 k x3 x4 x16 x18 x19 x21 (wrap64 (x23 + 1)) x549000 x549001 x549002 x549003 x549004 x552000 x552001 x552002 x552003 x552004)) else (none)) else (if x21 = true then (if (!(x549000 == x552000) || (!(x549001 == x552001) || (!(x549002 == x552002) || (!(x549003 == x552003) || (!(x549004 == x552004)))))) = true then (some false) else (laws_FnLinked.l1 k x3 x4 x16 x18 (wrap64 (x19 + 1)))) else (some false))) else (none)) else (none)
end
def laws_FnLinked.f (k : Nat) (l0 : List Int) : Option (Bool) := (laws_big.f l0).bind fun t494 => (if t494 = true then (some true) else ((spec_DrawLink.f k l0).bind fun t495 => ((impl_Link.f k t495).bind fun bt498 => ((spec_Link.f k t495).bind fun bt502 => ((spec_DrawLayout.f k l0).bind fun t506 => ((impl_Layout.f k t506).bind fun bt509 => ((spec_Layout.f k t506).bind fun bt513 => ((spec_DrawPartOk.f k l0).bind fun bt517 => ((spec_DrawPartAt.f k l0).bind fun bt525 => (if (bt498.2 != bt502.2) = true then (laws_FnLinked.j0 k t495 bt498.1 bt498.2 true) else ((laws_sameInts.f k bt498.1 bt502.1).bind fun t529 => (if t529 = true then (if (bt509.2 != bt513.2) = true then (laws_FnLinked.j0 k t495 bt498.1 bt498.2 true) else ((laws_sameInts.f k bt509.1 bt513.1).bind fun t530 => (if t530 = true then ((impl_PartOk.f k bt517.1 bt517.2.1 bt517.2.2).bind fun t531 => ((spec_PartOk.f k bt517.1 bt517.2.1 bt517.2.2).bind fun t532 => (if (t531 != t532) = true then (laws_FnLinked.j0 k t495 bt498.1 bt498.2 true) else ((impl_PartAt.f bt525.1 bt525.2).bind fun t533 => ((spec_PartAt.f k bt525.1 bt525.2).bind fun t534 => (laws_FnLinked.j0 k t495 bt498.1 bt498.2 (t533 != t534))))))) else (laws_FnLinked.j0 k t495 bt498.1 bt498.2 true)))) else (laws_FnLinked.j0 k t495 bt498.1 bt498.2 true)))))))))))))
theorem laws_FnLinked.mono_l : ∀ k, (∀ y0 y1 y2 y3, LeO (laws_FnLinked.j0 k y0 y1 y2 y3) (laws_FnLinked.j0 (k + 1) y0 y1 y2 y3)) ∧ (∀ y0 y1 y2 y3, LeO (laws_FnLinked.j1 k y0 y1 y2 y3) (laws_FnLinked.j1 (k + 1) y0 y1 y2 y3)) ∧ (∀ y0 y1 y2 y3, LeO (laws_FnLinked.l0 k y0 y1 y2 y3) (laws_FnLinked.l0 (k + 1) y0 y1 y2 y3)) ∧ (∀ y0 y1 y2 y3 y4, LeO (laws_FnLinked.l1 k y0 y1 y2 y3 y4) (laws_FnLinked.l1 (k + 1) y0 y1 y2 y3 y4)) ∧ (∀ y0 y1 y2 y3 y4 y5 y6 y7 y8 y9 y10 y11 y12 y13 y14 y15 y16, LeO (laws_FnLinked.l2 k y0 y1 y2 y3 y4 y5 y6 y7 y8 y9 y10 y11 y12 y13 y14 y15 y16) (laws_FnLinked.l2 (k + 1) y0 y1 y2 y3 y4 y5 y6 y7 y8 y9 y10 y11 y12 y13 y14 y15 y16))
 | 0 => ⟨fun _ _ _ _ r h => by simp [laws_FnLinked.j0] at h, fun _ _ _ _ r h => by simp [laws_FnLinked.j1] at h, fun _ _ _ _ r h => by simp [laws_FnLinked.l0] at h, fun _ _ _ _ _ r h => by simp [laws_FnLinked.l1] at h, fun _ _ _ _ _ _ _ _ _ _ _ _ _ _ _ _ _ r h => by simp [laws_FnLinked.l2] at h⟩
 | k + 1 => by
  obtain ⟨ih0, ih1, ih2, ih3, ih4⟩ := laws_FnLinked.mono_l k
  refine ⟨?_, ?_, ?_, ?_, ?_⟩
  ·intros
   unfold laws_FnLinked.j0
   have mo0 := @impl_Layout.mono
   have mo1 := @impl_Link.mono
   have mo2 := @impl_PartOk.mono
   have mo3 := @laws_sameInts.mono
   have mo4 := @spec_DrawLayout.mono
   have mo5 := @spec_DrawLink.mono
   have mo6 := @spec_DrawPartAt.mono
   have mo7 := @spec_DrawPartOk.mono
   have mo8 := @spec_Layout.mono
   have mo9 := @spec_Link.mono
   have mo10 := @spec_PartAt.mono
   have mo11 := @spec_PartOk.mono
   exact zL
  ·intros
   unfold laws_FnLinked.j1
   have mo0 := @impl_Layout.mono
   have mo1 := @impl_Link.mono
   have mo2 := @impl_PartOk.mono
   have mo3 := @laws_sameInts.mono
   have mo4 := @spec_DrawLayout.mono
   have mo5 := @spec_DrawLink.mono
   have mo6 := @spec_DrawPartAt.mono
   have mo7 := @spec_DrawPartOk.mono
   have mo8 := @spec_Layout.mono
   have mo9 := @spec_Link.mono
   have mo10 := @spec_PartAt.mono
   have mo11 := @spec_PartOk.mono
   exact zL
  ·intros
   unfold laws_FnLinked.l0
   have mo0 := @impl_Layout.mono
   have mo1 := @impl_Link.mono
   have mo2 := @impl_PartOk.mono
   have mo3 := @laws_sameInts.mono
   have mo4 := @spec_DrawLayout.mono
   have mo5 := @spec_DrawLink.mono
   have mo6 := @spec_DrawPartAt.mono
   have mo7 := @spec_DrawPartOk.mono
   have mo8 := @spec_Layout.mono
   have mo9 := @spec_Link.mono
   have mo10 := @spec_PartAt.mono
   have mo11 := @spec_PartOk.mono
   exact zL
  ·intros
   unfold laws_FnLinked.l1
   have mo0 := @impl_Layout.mono
   have mo1 := @impl_Link.mono
   have mo2 := @impl_PartOk.mono
   have mo3 := @laws_sameInts.mono
   have mo4 := @spec_DrawLayout.mono
   have mo5 := @spec_DrawLink.mono
   have mo6 := @spec_DrawPartAt.mono
   have mo7 := @spec_DrawPartOk.mono
   have mo8 := @spec_Layout.mono
   have mo9 := @spec_Link.mono
   have mo10 := @spec_PartAt.mono
   have mo11 := @spec_PartOk.mono
   exact zL
  ·intros
   unfold laws_FnLinked.l2
   have mo0 := @impl_Layout.mono
   have mo1 := @impl_Link.mono
   have mo2 := @impl_PartOk.mono
   have mo3 := @laws_sameInts.mono
   have mo4 := @spec_DrawLayout.mono
   have mo5 := @spec_DrawLink.mono
   have mo6 := @spec_DrawPartAt.mono
   have mo7 := @spec_DrawPartOk.mono
   have mo8 := @spec_Layout.mono
   have mo9 := @spec_Link.mono
   have mo10 := @spec_PartAt.mono
   have mo11 := @spec_PartOk.mono
   exact zL
theorem laws_FnLinked.mono : ∀ a0 k, LeO (laws_FnLinked.f k a0) (laws_FnLinked.f (k + 1) a0) := by
 intro a0 k
 obtain ⟨ih0, ih1, ih2, ih3, ih4⟩ := laws_FnLinked.mono_l k
 unfold laws_FnLinked.f
 have mo0 := @impl_Layout.mono
 have mo1 := @impl_Link.mono
 have mo2 := @impl_PartOk.mono
 have mo3 := @laws_sameInts.mono
 have mo4 := @spec_DrawLayout.mono
 have mo5 := @spec_DrawLink.mono
 have mo6 := @spec_DrawPartAt.mono
 have mo7 := @spec_DrawPartOk.mono
 have mo8 := @spec_Layout.mono
 have mo9 := @spec_Link.mono
 have mo10 := @spec_PartAt.mono
 have mo11 := @spec_PartOk.mono
 exact zL
def laws_FnLinked.T11 : Bool × List (List Nat × List Nat) := (true, [([], []), ([], []), ([0, 1], [0, 1]), ([2], [2]), ([3], [3]), ([3], [3]), ([4, 5, 3, 3], [3, 4, 5]), ([6, 3], [3, 6]), ([3, 7], [3, 7]), ([8, 6], [8]), ([9], [9]), ([9], [9]), ([10, 11, 9], [9, 10, 11]), ([9, 12], [9, 12]), ([13, 9], [13]), ([14], [14]), ([14], [14]), ([15, 16, 14, 14], [14, 15, 16]), ([17, 14], [14, 17]), ([14, 18], [14, 18]), ([19, 17], [19]), ([20], [20]), ([21, 20, 20], [20, 21]), ([20], [20]), ([23, 22, 20], [20, 23]), ([22, 24, 20], [20, 22, 24]), ([20, 25], [20, 25]), ([26, 24], [26]), ([27], [27]), ([27], [27]), ([28, 29, 27, 27], [27, 28, 29]), ([27], [27]), ([27], [27]), ([31, 32, 30, 27], [27, 31, 32]), ([30, 33, 27], [27, 30, 33]), ([27, 34], [27, 34])])
def laws_FnLinked.B11 : List Nat := [0, 0, 3, 7, 15, 15, 63, 127, 255, 511, 1023, 1023, 4095, 8191, 16383, 32767, 32767, 131071, 262143, 524287, 1048575, 2097151, 4194303, 2097151, 16777215, 33554431, 67108863, 134217727, 268435455, 268435455, 1073741823, 268435455, 268435455, 8589934591, 17179869183, 34359738367]
theorem laws_FnLinked.tab11 : rtab .any (opsOf Try.f4 11) = laws_FnLinked.T11 := by kernel_rfl
theorem laws_FnLinked.bits11 : waitsOk laws_FnLinked.T11.2 laws_FnLinked.B11 = true := by kernel_rfl
theorem laws_FnLinked.calls (k : Nat) (A0 : Option Addr) (c0 : Nat) (l0 : List Int) (r : Bool) (w : World) (hr0 : Kd.C (Kd.int .u8) w A0 l0.length l0) (hc0 : l0.length ≤ c0) (h : laws_FnLinked.f k l0 = some r) :
  Calls Try.prog 4 #[.slice A0 l0.length c0] w fun e w' => e = .returned (.bool r) ∧ Below w.heap.size w w' := by
 have hu49 := Try.underlying49
 have hu57 := Try.underlying57
 have HR0 := zM hr0
 have HC0 := zM hc0
 clear hr0 hc0
 have HB := zM (Below.refl w.heap.size w)
 unfold laws_FnLinked.f at h
 have H := h
 clear h
 replace H := zO H
 obtain ⟨t494, A2, H⟩ := H
 by_cases c3 : t494 = true
 ·subst c3
  rw [if_pos rfl] at H
  obtain rfl := Option.some.inj H
  go_enter Try.func4, Try.ntmps4
  go_wp2_with (first | ((with_reducible refine zG Try.func5 25 #[.slice A0 l0.length c0] ?_); (with_reducible refine (laws_big.calls _ _ l0 true _ ?side1 ?side2 A2.1).mono ?_); (case side1 => exact zC HR0.1); (case side2 => exact HC0.1); rintro e w' ⟨rfl, ⟨nd, rfl⟩⟩; refine ⟨_, rfl, ?_⟩))
  go_ret
  exact ⟨zE, zB0⟩
 replace c3 := Bool.eq_false_iff.mpr c3
 subst c3
 rw [if_neg zF] at H
 replace H := zO H
 obtain ⟨t495, A4, H⟩ := H
 replace H := zO H
 obtain ⟨⟨t498, t499⟩, A5, H⟩ := H
 try dsimp only at H
 replace H := zO H
 obtain ⟨⟨t502, t503⟩, A6, H⟩ := H
 try dsimp only at H
 replace H := zO H
 obtain ⟨t506, A7, H⟩ := H
 replace H := zO H
 obtain ⟨⟨t509, t510⟩, A8, H⟩ := H
 try dsimp only at H
 replace H := zO H
 obtain ⟨⟨t513, t514⟩, A9, H⟩ := H
 try dsimp only at H
 replace H := zO H
 obtain ⟨⟨t517, t518, t521⟩, A10, H⟩ := H
 try dsimp only at H
 replace H := zO H
 obtain ⟨⟨t525, t526⟩, A11, H⟩ := H
 try dsimp only at H
 have HC12 := zM H
 clear H
 go_enter Try.func4, Try.ntmps4
 go_upto_region 11 with (first | ((with_reducible refine zG Try.func5 25 #[.slice A0 l0.length c0] ?_); (with_reducible refine (laws_big.calls _ _ l0 false _ ?side1 ?side2 A2.1).mono ?_); (case side1 => exact zC HR0.1); (case side2 => exact HC0.1); rintro e w' ⟨rfl, ⟨nd, rfl⟩⟩; refine ⟨_, rfl, ?_⟩) | ((with_reducible refine zG Try.func17 27 #[.slice A0 l0.length c0] ?_); (with_reducible refine (spec_DrawLink.calls k _ _ l0 t495 _ ?side1 ?side2 A4.1).mono ?_); (case side1 => exact zC HR0.1); (case side2 => exact HC0.1); rintro e w13 ⟨v496, rfl, ho0, hb⟩; refine ⟨_, rfl, ?_⟩; have HO497 := zM (Kd.S_lower ho0 (below_size zB0)); replace HB := zM (below_step zB0 hb); clear hb ho0; obtain ⟨Ao14, co14, eo14⟩ := Kd.S_slice HO497.1; subst eo14) | ((with_reducible refine zG Try.func18 30 #[.slice Ao14 t495.length co14] ?_); (with_reducible refine (impl_Link.calls k _ _ t495 t498 t499 _ ?side1 ?side2 A5.1).mono ?_); (case side1 => exact zC (Kd.S_reads' HO497.1).2.2); (case side2 => exact (Kd.S_reads' HO497.1).2.1); rintro e w15 ⟨v500, rfl, ho0, hb⟩; refine ⟨_, rfl, ?_⟩; replace HO497 := zM (Kd.S_below (zS HO497.1) hb); have HO501 := zM (Kd.R_lower ho0 (below_size zB0)); replace HB := zM (below_step zB0 hb); clear hb ho0) | ((with_reducible refine zG Try.func19 35 #[.slice Ao14 t495.length co14] ?_); (with_reducible refine (spec_Link.calls k _ _ t495 t502 t503 _ ?side1 ?side2 A6.1).mono ?_); (case side1 => exact zC (Kd.S_reads' HO497.1).2.2); (case side2 => exact (Kd.S_reads' HO497.1).2.1); rintro e w16 ⟨v504, rfl, ho0, hb⟩; refine ⟨_, rfl, ?_⟩; replace HO497 := zM (Kd.S_below (zS HO497.1) hb); have HO505 := zM (Kd.R_lower (Kd.R_new' ho0 (Kd.R_lt (zR HO501.1))) (below_size zB0)); replace HO501 := zM (Kd.R_elder' (zR HO501.1) (Kd.R_base ho0) hb); replace HB := zM (below_step zB0 hb); clear hb ho0) | ((with_reducible refine zG Try.func20 39 #[.slice A0 l0.length c0] ?_); (with_reducible refine (spec_DrawLayout.calls k _ _ l0 t506 _ ?side1 ?side2 A7.1).mono ?_); (case side1 => exact zC (Kd.C_below HR0.1 HB.1)); (case side2 => exact HC0.1); rintro e w17 ⟨v507, rfl, ho0, hb⟩; refine ⟨_, rfl, ?_⟩; replace HO501 := zM (Kd.R_below (zR HO501.1) hb); replace HO505 := zM (Kd.R_below (zR HO505.1) hb); have HO508 := zM (Kd.S_lower (Kd.S_new' ho0 (Kd.S_lt (zS HO497.1))) (below_size zB0)); replace HO497 := zM (Kd.S_elder' (zS HO497.1) (Kd.S_base ho0) hb); replace HB := zM (below_step zB0 hb); clear hb ho0; obtain ⟨Ao18, co18, eo18⟩ := Kd.S_slice HO508.1; subst eo18) | ((with_reducible refine zG Try.func21 42 #[.slice Ao18 t506.length co18] ?_); (with_reducible refine (impl_Layout.calls k _ _ t506 t509 t510 _ ?side1 ?side2 A8.1).mono ?_); (case side1 => exact zC (Kd.S_reads' HO508.1).2.2); (case side2 => exact (Kd.S_reads' HO508.1).2.1); rintro e w19 ⟨v511, rfl, ho0, hb⟩; refine ⟨_, rfl, ?_⟩; replace HO497 := zM (Kd.S_below (zS HO497.1) hb); replace HO508 := zM (Kd.S_below (zS HO508.1) hb); have HO512 := zM (Kd.R_lower (Kd.R_new' (Kd.R_new' ho0 (Kd.R_lt (zR HO501.1))) (Kd.R_lt (zR HO505.1))) (below_size zB0)); replace HO501 := zM (Kd.R_elder' (zR HO501.1) (Kd.R_base ho0) hb); replace HO505 := zM (Kd.R_elder' (zR HO505.1) (Kd.R_base ho0) hb); replace HB := zM (below_step zB0 hb); clear hb ho0) | ((with_reducible refine zG Try.func22 47 #[.slice Ao18 t506.length co18] ?_); (with_reducible refine (spec_Layout.calls k _ _ t506 t513 t514 _ ?side1 ?side2 A9.1).mono ?_); (case side1 => exact zC (Kd.S_reads' HO508.1).2.2); (case side2 => exact (Kd.S_reads' HO508.1).2.1); rintro e w20 ⟨v515, rfl, ho0, hb⟩; refine ⟨_, rfl, ?_⟩; replace HO497 := zM (Kd.S_below (zS HO497.1) hb); replace HO508 := zM (Kd.S_below (zS HO508.1) hb); have HO516 := zM (Kd.R_lower (Kd.R_new' (Kd.R_new' (Kd.R_new' ho0 (Kd.R_lt (zR HO501.1))) (Kd.R_lt (zR HO505.1))) (Kd.R_lt (zR HO512.1))) (below_size zB0)); replace HO501 := zM (Kd.R_elder' (zR HO501.1) (Kd.R_base ho0) hb); replace HO505 := zM (Kd.R_elder' (zR HO505.1) (Kd.R_base ho0) hb); replace HO512 := zM (Kd.R_elder' (zR HO512.1) (Kd.R_base ho0) hb); replace HB := zM (below_step zB0 hb); clear hb ho0) | ((with_reducible refine zG Try.func23 51 #[.slice A0 l0.length c0] ?_); (with_reducible refine (spec_DrawPartOk.calls k _ _ l0 t517 t518 t521 _ ?side1 ?side2 A10.1).mono ?_); (case side1 => exact zC (Kd.C_below HR0.1 HB.1)); (case side2 => exact HC0.1); rintro e w21 ⟨v519, v522, rfl, ho0, ho1, hb⟩; refine ⟨_, rfl, ?_⟩; replace HO497 := zM (Kd.S_mono (Kd.S_told (Kd.S_told (Kd.S_old (zS HO497.1) hb) (Kd.R_base ho0)) (Kd.R_base ho1)) (fun _ h_ => h_.1)); replace HO501 := zM (Kd.R_below (zR HO501.1) hb); replace HO505 := zM (Kd.R_below (zR HO505.1) hb); replace HO508 := zM (Kd.S_mono (Kd.S_told (Kd.S_told (Kd.S_old (zS HO508.1) hb) (Kd.R_base ho0)) (Kd.R_base ho1)) (fun _ h_ => h_.1)); replace HO512 := zM (Kd.R_below (zR HO512.1) hb); replace HO516 := zM (Kd.R_below (zR HO516.1) hb); have HO520 := zM (Kd.R_lower ho0 (below_size zB0)); have HO523 := zM (Kd.R_lower ho1 (below_size zB0)); replace HB := zM (below_step zB0 hb); clear hb ho0 ho1) | ((with_reducible refine gate_dst (N := 13) rfl ?_); (try (refine gate_guard (by rfl) ?_; dsimp only)); (with_reducible refine zBx 13 49 #[.string (⟨#[]⟩ : ByteArray), .slice none 0 0, .slice none 0 0] ?_); intro gb524 hg w22 hbox hb; replace HO497 := zM (Kd.S_below (Kd.S_elderB (zS HO497.1) gb524 (Nat.le_of_eq hg.symm)) hb); replace HO501 := zM (Kd.R_below (zR HO501.1) hb); replace HO505 := zM (Kd.R_below (zR HO505.1) hb); replace HO508 := zM (Kd.S_below (Kd.S_elderB (zS HO508.1) gb524 (Nat.le_of_eq hg.symm)) hb); replace HO512 := zM (Kd.R_below (zR HO512.1) hb); replace HO516 := zM (Kd.R_below (zR HO516.1) hb); replace HO520 := zM (Kd.R_below (zR HO520.1) hb); replace HO523 := zM (Kd.R_below (zR HO523.1) hb); have BK524 := zM hbox; have GW524 := zM (zW hg (below_size zB0)); have GE524 := zM (zW hg (below_size zB0)); replace HB := zM (below_step zB0 hb); clear hb hbox hg; have hcz23 := zc_3 (w := w22) BK524.1; obtain ⟨Ao24, co24, eo24⟩ := Kd.R_slice HO520.1; subst eo24; obtain ⟨Ao25, co25, eo25⟩ := Kd.R_slice HO523.1; subst eo25) | ((with_reducible refine zG Try.func24 54 #[.slice A0 l0.length c0] ?_); (with_reducible refine (spec_DrawPartAt.calls k _ _ l0 t525 t526 _ ?side1 ?side2 A11.1).mono ?_); (case side1 => exact Kd.C_below HR0.1 zB0); (case side2 => exact HC0.1); rintro e w26 ⟨v527, rfl, ho0, hb⟩; refine ⟨_, rfl, ?_⟩; replace HO501 := zM (Kd.R_below (by refine zrR ?_; exact (Kd.R_mono (zfR (zfR (zfR (Kd.R_types HO501.1 BK524.1 (by decide))))) (fun _ h_ => h_.1))) hb); replace HO505 := zM (Kd.R_below (by refine zrR ?_; exact (Kd.R_mono (zfR (zfR (zfR (Kd.R_types HO505.1 BK524.1 (by decide))))) (fun _ h_ => h_.1))) hb); replace HO512 := zM (Kd.R_below (by refine zrR ?_; exact (Kd.R_mono (zfR (zfR (zfR (Kd.R_types HO512.1 BK524.1 (by decide))))) (fun _ h_ => h_.1))) hb); replace HO516 := zM (Kd.R_below (by refine zrR ?_; exact (Kd.R_mono (zfR (zfR (zfR (Kd.R_types HO516.1 BK524.1 (by decide))))) (fun _ h_ => h_.1))) hb); have HO528 := zM (Kd.S_lower (Kd.S_newB (Kd.S_new' (Kd.S_new' (Kd.S_new' (Kd.S_new' ho0 (Kd.S_lt (by refine zrS ?_; exact (Kd.S_mono (zfS (zfS (zfS (Kd.S_mono HO497.1 (fun k_ hk => (⟨hk, hk.2⟩ : _ ∧ k_ ≠ gb524)))))) (fun _ h_ => h_.1))))) (Kd.S_lt (by refine zrS ?_; exact (Kd.S_mono (zfS (zfS (zfS (Kd.S_mono HO508.1 (fun k_ hk => (⟨hk, hk.2⟩ : _ ∧ k_ ≠ gb524)))))) (fun _ h_ => h_.1))))) (Kd.R_lt (by refine zrR ?_; exact (Kd.R_mono (zfR (zfR (zfR (Kd.R_types HO520.1 BK524.1 (by decide))))) (fun _ h_ => h_.1))))) (Kd.R_lt (by refine zrR ?_; exact (Kd.R_mono (zfR (zfR (zfR (Kd.R_types HO523.1 BK524.1 (by decide))))) (fun _ h_ => h_.1))))) (g := gb524) (o := .cells #[.string t517, .slice Ao24 t518.length co24, .slice Ao25 t521.length co25] 49 (0, 0)) (by exact zp3 (zK BK524.1))) (below_size zB0)); replace HO497 := zM (Kd.S_elder' (by refine zrS ?_; exact (Kd.S_mono (zfS (zfS (zfS (Kd.S_mono HO497.1 (fun k_ hk => (⟨hk, hk.2⟩ : _ ∧ k_ ≠ gb524)))))) (fun _ h_ => h_.1))) (Kd.S_base ho0) hb); replace HO508 := zM (Kd.S_elder' (by refine zrS ?_; exact (Kd.S_mono (zfS (zfS (zfS (Kd.S_mono HO508.1 (fun k_ hk => (⟨hk, hk.2⟩ : _ ∧ k_ ≠ gb524)))))) (fun _ h_ => h_.1))) (Kd.S_base ho0) hb); replace HO520 := zM (Kd.R_below (by refine zrR ?_; exact (Kd.R_mono (zfR (zfR (zfR (Kd.R_types HO520.1 BK524.1 (by decide))))) (fun _ h_ => h_.1))) hb); replace HO523 := zM (Kd.R_below (by refine zrR ?_; exact (Kd.R_mono (zfR (zfR (zfR (Kd.R_types HO523.1 BK524.1 (by decide))))) (fun _ h_ => h_.1))) hb); replace BK524 := zM (blk_below (g := gb524) (o := .cells #[.string t517, .slice Ao24 t518.length co24, .slice Ao25 t521.length co25] 49 (0, 0)) (by exact zp3 (zK BK524.1)) hb); replace HB := zM (below_step zB0 hb); clear hb ho0))
 (try simp only [Act.put, List.setIfInBounds_toArray, List.set_cons_zero, List.set_cons_succ])
 go_cut [92] (fun v92 wc => ∃ (kq : Nat) (x92_11 : Bool), v92 = .bool x92_11 ∧ Aside0 (laws_FnLinked.j0 kq t495 t498 t499 x92_11 = some r) ∧ Aside0 (kq ≤ k) ∧ Aside0 (Kd.S k49 49 wc w.heap.size (fun k_ => some k_ ≠ ((.slice Ao24 t518.length co24) : Value).ownBlock ∧ some k_ ≠ ((.slice Ao25 t521.length co25) : Value).ownBlock ∧ k_ ≠ gb524) (.slice Ao14 t495.length co14) t495) ∧ Aside0 (Kd.R (Kd.int .i64) 3 wc w.heap.size (fun _ => True) v500 t498) ∧ Aside0 (Kd.R k57 57 wc w.heap.size (fun _ => True) (.slice Ao24 t518.length co24) t518) ∧ Aside0 (Kd.R k61 61 wc w.heap.size (fun _ => True) (.slice Ao25 t521.length co25) t521) ∧ Aside0 (wc.heap[gb524]? = some (.cells #[.string t517, (.slice Ao24 t518.length co24), (.slice Ao25 t521.length co25)] 49 (0, 0))) ∧ Aside0 (Below w.heap.size w wc))
 case first =>
  have H := HC12.1
  clear HC12
  by_cases c27 : (t499 != t503) = true
  ·rw [if_pos c27] at H
   have c27b0 : (t499 != t503) = true := c27
   (try (have c27b1 : decide (t499 = t503) = false := by simpa using c27))
   (try (have c27b2 : (t499 == t503) = false := by simpa using c27))
   (try (have c27b3 : ¬ (t499 = t503) := by simpa using c27))
   clear c27
   (first | rw [c27b0] | (simp only [i64_w, i32_w]; rw [c27b0]) | skip)
   have H' := zM H
   clear H
   try go_wp2
   replace HO497 := zM (Kd.S_drew HO497.1)
   replace HO501 := zM (Kd.R_drew HO501.1)
   replace HO505 := zM (Kd.R_drew HO505.1)
   replace HO508 := zM (Kd.S_drew HO508.1)
   replace HO512 := zM (Kd.R_drew HO512.1)
   replace HO516 := zM (Kd.R_drew HO516.1)
   replace HO520 := zM (Kd.R_drew HO520.1)
   replace HO523 := zM (Kd.R_drew HO523.1)
   replace HO528 := zM (Kd.S_drew HO528.1)
   replace BK524 := zM (blk_drew BK524.1)
   replace HB := zM (below_drew1 HB.1)
   refine start_ (n := 36) (S := fun w' => True) (ds := []) zq14_0 (by kernel_rfl) rfl rfl trivial (fun hHeld => ?_); refine with_tabW laws_FnLinked.tab11 laws_FnLinked.bits11 (fun HT_ HW_ => ?_)
   generalize w26.drew = w28 at HO497 HO501 HO505 HO508 HO512 HO516 HO520 HO523 HO528 BK524 HB hHeld ⊢
   refine zPu 0 ?_
   refine zPu 1 ?_
   refine zPu 2 ?_
   refine zPu 3 ?_
   refine zPn 4 ?_
   refine zPn 5 ?_
   refine zPn 6 ?_
   refine zPn 7 ?_
   refine zPu 8 ?_
   refine zPu 9 ?_
   refine zPn 10 ?_
   refine zPn 11 ?_
   refine zPn 12 ?_
   refine zPu 13 ?_
   refine zPu 14 ?_
   refine zPn 15 ?_
   refine zPn 16 ?_
   refine zPn 17 ?_
   refine zPn 18 ?_
   refine zPu 19 ?_
   refine zPu 20 ?_
   refine zPn 21 ?_
   refine zPn 22 ?_
   refine zPn 23 ?_
   refine zPn 24 ?_
   refine zPn 25 ?_
   refine zPu 26 ?_
   refine zPu 27 ?_
   refine zPn 28 ?_
   refine zPn 29 ?_
   refine zPn 30 ?_
   refine zPn 31 ?_
   refine zPn 32 ?_
   refine zPn 33 ?_
   refine zPn 34 ?_
   refine zPu 35 ?_
   refine done_ (done_of HT_.1 (by kernel_rfl)) ?_
   try go_wp2
   go_meet
   case rel => exact ⟨_, (true), zJJ, H', ⟨by first | omega | exact Nat.le_refl _⟩, ⟨by refine zrS ?_; exact Kd.S_mono HO497.1 (fun _ hk => ⟨hk.1.1.1.2, ⟨hk.1.1.2, hk.1.2⟩⟩)⟩, ⟨by refine zrR ?_; exact Kd.R_mono HO501.1 (fun _ hk => trivial)⟩, ⟨zR HO520.1⟩, ⟨zR HO523.1⟩, ⟨zK BK524.1⟩, ⟨zB0⟩⟩
  rw [if_neg c27] at H
  have c27b0 : (t499 != t503) = false := by simpa using c27
  (try (have c27b1 : decide (t499 = t503) = true := by simpa using c27))
  (try (have c27b2 : (t499 == t503) = true := by simpa using c27))
  clear c27
  (first | rw [c27b0] | (simp only [i64_w, i32_w]; rw [c27b0]) | skip)
  replace H := zO H
  obtain ⟨t529, A29, H⟩ := H
  by_cases c30 : t529 = true
  rotate_left
  ·replace c30 := Bool.eq_false_iff.mpr c30
   subst c30
   rw [if_neg zF] at H
   have H' := zM H
   clear H
   try go_wp2
   replace HO497 := zM (Kd.S_drew HO497.1)
   replace HO501 := zM (Kd.R_drew HO501.1)
   replace HO505 := zM (Kd.R_drew HO505.1)
   replace HO508 := zM (Kd.S_drew HO508.1)
   replace HO512 := zM (Kd.R_drew HO512.1)
   replace HO516 := zM (Kd.R_drew HO516.1)
   replace HO520 := zM (Kd.R_drew HO520.1)
   replace HO523 := zM (Kd.R_drew HO523.1)
   replace HO528 := zM (Kd.S_drew HO528.1)
   replace BK524 := zM (blk_drew BK524.1)
   replace HB := zM (below_drew1 HB.1)
   obtain ⟨Ao64, co64, eo64⟩ := Kd.R_slice HO501.1
   (first | subst eo64 | (injection eo64 with f1_ f2_ f3_; have f4_ := f1_.symm; have f5_ := f3_.symm; clear f1_ f2_ f3_; subst f4_; subst f5_))
   obtain ⟨Ao65, co65, eo65⟩ := Kd.R_slice HO505.1
   (first | subst eo65 | (injection eo65 with f1_ f2_ f3_; have f4_ := f1_.symm; have f5_ := f3_.symm; clear f1_ f2_ f3_; subst f4_; subst f5_))
   refine start_ (n := 36) (S := fun w' => True) (ds := []) zq14_0 (by kernel_rfl) rfl rfl trivial (fun hHeld => ?_); refine with_tabW laws_FnLinked.tab11 laws_FnLinked.bits11 (fun HT_ HW_ => ?_)
   generalize w26.drew = w63 at HO497 HO501 HO505 HO508 HO512 HO516 HO520 HO523 HO528 BK524 HB hHeld ⊢
   refine zPu 0 ?_
   refine zPu 1 ?_
   refine zPu 2 ?_
   refine zPu 3 ?_
   refine zPu 4 ?_
   refine zPu 5 ?_
   refine zOn 6 (some 63) fun K hK => ?_
   refine zGs Try.func25 #[.slice Ao64 t498.length co64, .slice Ao65 t502.length co65] ?_
   with_reducible refine (laws_sameInts.calls k _ _ t498 _ _ t502 false _ ?side1 ?side2 ?side3 ?side4 A29.1).mono ?_
   (case side1 => exact zC (Kd.R_reads' HO501.1).2.2)
   (case side2 => exact (Kd.R_reads' HO501.1).2.1)
   (case side3 => exact zC (Kd.R_reads' HO505.1).2.2)
   (case side4 => exact (Kd.R_reads' HO505.1).2.1)
   rintro e w' ⟨rfl, ⟨nd, rfl⟩⟩
   refine ⟨_, rfl, ?_⟩
   refine hK.out _ _ trivial (fun hHeld => ?_)
   clear hK K
   refine zNo ?_
   refine zPu 7 ?_
   refine zPu 8 ?_
   refine zPu 9 ?_
   refine zPn 10 ?_
   refine zPn 11 ?_
   refine zPn 12 ?_
   refine zPu 13 ?_
   refine zPu 14 ?_
   refine zPn 15 ?_
   refine zPn 16 ?_
   refine zPn 17 ?_
   refine zPn 18 ?_
   refine zPu 19 ?_
   refine zPu 20 ?_
   refine zPn 21 ?_
   refine zPn 22 ?_
   refine zPn 23 ?_
   refine zPn 24 ?_
   refine zPn 25 ?_
   refine zPu 26 ?_
   refine zPu 27 ?_
   refine zPn 28 ?_
   refine zPn 29 ?_
   refine zPn 30 ?_
   refine zPn 31 ?_
   refine zPn 32 ?_
   refine zPn 33 ?_
   refine zPn 34 ?_
   refine zPu 35 ?_
   refine done_ (done_of HT_.1 (by kernel_rfl)) ?_
   try go_wp2
   go_meet
   case rel => exact ⟨_, (true), zJJ, H', ⟨by first | omega | exact Nat.le_refl _⟩, ⟨by refine zrS ?_; exact Kd.S_mono HO497.1 (fun _ hk => ⟨hk.1.1.1.2, ⟨hk.1.1.2, hk.1.2⟩⟩)⟩, ⟨by refine zrR ?_; exact Kd.R_mono HO501.1 (fun _ hk => trivial)⟩, ⟨zR HO520.1⟩, ⟨zR HO523.1⟩, ⟨zK BK524.1⟩, ⟨zB0⟩⟩
  subst c30
  rw [if_pos rfl] at H
  by_cases c31 : (t510 != t514) = true
  ·rw [if_pos c31] at H
   have c31b0 : (t510 != t514) = true := c31
   (try (have c31b1 : decide (t510 = t514) = false := by simpa using c31))
   (try (have c31b2 : (t510 == t514) = false := by simpa using c31))
   (try (have c31b3 : ¬ (t510 = t514) := by simpa using c31))
   clear c31
   have H' := zM H
   clear H
   try go_wp2
   replace HO497 := zM (Kd.S_drew HO497.1)
   replace HO501 := zM (Kd.R_drew HO501.1)
   replace HO505 := zM (Kd.R_drew HO505.1)
   replace HO508 := zM (Kd.S_drew HO508.1)
   replace HO512 := zM (Kd.R_drew HO512.1)
   replace HO516 := zM (Kd.R_drew HO516.1)
   replace HO520 := zM (Kd.R_drew HO520.1)
   replace HO523 := zM (Kd.R_drew HO523.1)
   replace HO528 := zM (Kd.S_drew HO528.1)
   replace BK524 := zM (blk_drew BK524.1)
   replace HB := zM (below_drew1 HB.1)
   obtain ⟨Ao33, co33, eo33⟩ := Kd.R_slice HO501.1
   (first | subst eo33 | (injection eo33 with f1_ f2_ f3_; have f4_ := f1_.symm; have f5_ := f3_.symm; clear f1_ f2_ f3_; subst f4_; subst f5_))
   obtain ⟨Ao34, co34, eo34⟩ := Kd.R_slice HO505.1
   (first | subst eo34 | (injection eo34 with f1_ f2_ f3_; have f4_ := f1_.symm; have f5_ := f3_.symm; clear f1_ f2_ f3_; subst f4_; subst f5_))
   refine start_ (n := 36) (S := fun w' => True) (ds := []) zq14_0 (by kernel_rfl) rfl rfl trivial (fun hHeld => ?_); refine with_tabW laws_FnLinked.tab11 laws_FnLinked.bits11 (fun HT_ HW_ => ?_)
   generalize w26.drew = w32 at HO497 HO501 HO505 HO508 HO512 HO516 HO520 HO523 HO528 BK524 HB hHeld ⊢
   refine zPu 0 ?_
   refine zPu 1 ?_
   refine zPu 2 ?_
   refine zPu 3 ?_
   refine zPu 4 ?_
   refine zPu 5 ?_
   refine zOn 6 (some 63) fun K hK => ?_
   refine zGs Try.func25 #[.slice Ao33 t498.length co33, .slice Ao34 t502.length co34] ?_
   with_reducible refine (laws_sameInts.calls k _ _ t498 _ _ t502 true _ ?side1 ?side2 ?side3 ?side4 A29.1).mono ?_
   (case side1 => exact zC (Kd.R_reads' HO501.1).2.2)
   (case side2 => exact (Kd.R_reads' HO501.1).2.1)
   (case side3 => exact zC (Kd.R_reads' HO505.1).2.2)
   (case side4 => exact (Kd.R_reads' HO505.1).2.1)
   rintro e w' ⟨rfl, ⟨nd, rfl⟩⟩
   refine ⟨_, rfl, ?_⟩
   refine hK.out _ _ trivial (fun hHeld => ?_)
   clear hK K
   refine zNo ?_
   refine zPu 7 ?_
   refine zPu 8 ?_
   refine zPu 9 ?_
   refine zPu 10 ?_
   refine zPu 11 ?_
   refine zPu 12 ?_
   refine zPu 13 ?_
   refine zPu 14 ?_
   refine zPn 15 ?_
   refine zPn 16 ?_
   refine zPn 17 ?_
   refine zPn 18 ?_
   refine zPu 19 ?_
   refine zPu 20 ?_
   refine zPn 21 ?_
   refine zPn 22 ?_
   refine zPn 23 ?_
   refine zPn 24 ?_
   refine zPn 25 ?_
   refine zPu 26 ?_
   refine zPu 27 ?_
   refine zPn 28 ?_
   refine zPn 29 ?_
   refine zPn 30 ?_
   refine zPn 31 ?_
   refine zPn 32 ?_
   refine zPn 33 ?_
   refine zPn 34 ?_
   refine zPu 35 ?_
   refine done_ (done_of HT_.1 (by kernel_rfl)) ?_
   try go_wp2
   go_meet
   case rel => exact ⟨_, (true), zJJ, H', ⟨by first | omega | exact Nat.le_refl _⟩, ⟨by refine zrS ?_; exact Kd.S_mono HO497.1 (fun _ hk => ⟨hk.1.1.1.2, ⟨hk.1.1.2, hk.1.2⟩⟩)⟩, ⟨by refine zrR ?_; exact Kd.R_mono HO501.1 (fun _ hk => trivial)⟩, ⟨zR HO520.1⟩, ⟨zR HO523.1⟩, ⟨zK BK524.1⟩, ⟨zB0⟩⟩
  rw [if_neg c31] at H
  have c31b0 : (t510 != t514) = false := by simpa using c31
  (try (have c31b1 : decide (t510 = t514) = true := by simpa using c31))
  (try (have c31b2 : (t510 == t514) = true := by simpa using c31))
  clear c31
  replace H := zO H
  obtain ⟨t530, A35, H⟩ := H
  by_cases c36 : t530 = true
  rotate_left
  ·replace c36 := Bool.eq_false_iff.mpr c36
   subst c36
   rw [if_neg zF] at H
   have H' := zM H
   clear H
   try go_wp2
   replace HO497 := zM (Kd.S_drew HO497.1)
   replace HO501 := zM (Kd.R_drew HO501.1)
   replace HO505 := zM (Kd.R_drew HO505.1)
   replace HO508 := zM (Kd.S_drew HO508.1)
   replace HO512 := zM (Kd.R_drew HO512.1)
   replace HO516 := zM (Kd.R_drew HO516.1)
   replace HO520 := zM (Kd.R_drew HO520.1)
   replace HO523 := zM (Kd.R_drew HO523.1)
   replace HO528 := zM (Kd.S_drew HO528.1)
   replace BK524 := zM (blk_drew BK524.1)
   replace HB := zM (below_drew1 HB.1)
   obtain ⟨Ao59, co59, eo59⟩ := Kd.R_slice HO501.1
   (first | subst eo59 | (injection eo59 with f1_ f2_ f3_; have f4_ := f1_.symm; have f5_ := f3_.symm; clear f1_ f2_ f3_; subst f4_; subst f5_))
   obtain ⟨Ao60, co60, eo60⟩ := Kd.R_slice HO505.1
   (first | subst eo60 | (injection eo60 with f1_ f2_ f3_; have f4_ := f1_.symm; have f5_ := f3_.symm; clear f1_ f2_ f3_; subst f4_; subst f5_))
   refine start_ (n := 36) (S := fun w' => True) (ds := []) zq14_0 (by kernel_rfl) rfl rfl trivial (fun hHeld => ?_); refine with_tabW laws_FnLinked.tab11 laws_FnLinked.bits11 (fun HT_ HW_ => ?_)
   generalize w26.drew = w58 at HO497 HO501 HO505 HO508 HO512 HO516 HO520 HO523 HO528 BK524 HB hHeld ⊢
   refine zPu 0 ?_
   refine zPu 1 ?_
   refine zPu 2 ?_
   refine zPu 3 ?_
   refine zPu 4 ?_
   refine zPu 5 ?_
   refine zOn 6 (some 63) fun K hK => ?_
   refine zGs Try.func25 #[.slice Ao59 t498.length co59, .slice Ao60 t502.length co60] ?_
   with_reducible refine (laws_sameInts.calls k _ _ t498 _ _ t502 true _ ?side1 ?side2 ?side3 ?side4 A29.1).mono ?_
   (case side1 => exact zC (Kd.R_reads' HO501.1).2.2)
   (case side2 => exact (Kd.R_reads' HO501.1).2.1)
   (case side3 => exact zC (Kd.R_reads' HO505.1).2.2)
   (case side4 => exact (Kd.R_reads' HO505.1).2.1)
   rintro e w' ⟨rfl, ⟨nd, rfl⟩⟩
   refine ⟨_, rfl, ?_⟩
   obtain ⟨Ao61, co61, eo61⟩ := Kd.R_slice HO512.1
   (first | subst eo61 | (injection eo61 with f1_ f2_ f3_; have f4_ := f1_.symm; have f5_ := f3_.symm; clear f1_ f2_ f3_; subst f4_; subst f5_))
   obtain ⟨Ao62, co62, eo62⟩ := Kd.R_slice HO516.1
   (first | subst eo62 | (injection eo62 with f1_ f2_ f3_; have f4_ := f1_.symm; have f5_ := f3_.symm; clear f1_ f2_ f3_; subst f4_; subst f5_))
   refine hK.out _ _ trivial (fun hHeld => ?_)
   clear hK K
   refine zNo ?_
   refine zPu 7 ?_
   refine zPu 8 ?_
   refine zPu 9 ?_
   refine zPu 10 ?_
   refine zPu 11 ?_
   refine zPu 12 ?_
   refine zPu 13 ?_
   refine zPu 14 ?_
   refine zPu 15 ?_
   refine zPu 16 ?_
   refine zOn 17 (some 74) fun K hK => ?_
   refine zGs Try.func25 #[.slice Ao61 t509.length co61, .slice Ao62 t513.length co62] ?_
   with_reducible refine (laws_sameInts.calls k _ _ t509 _ _ t513 false _ ?side1 ?side2 ?side3 ?side4 A35.1).mono ?_
   (case side1 => exact zC (Kd.R_reads' HO512.1).2.2)
   (case side2 => exact (Kd.R_reads' HO512.1).2.1)
   (case side3 => exact zC (Kd.R_reads' HO516.1).2.2)
   (case side4 => exact (Kd.R_reads' HO516.1).2.1)
   rintro e w' ⟨rfl, ⟨nd, rfl⟩⟩
   refine ⟨_, rfl, ?_⟩
   refine hK.out _ _ trivial (fun hHeld => ?_)
   clear hK K
   refine zNo ?_
   refine zPu 18 ?_
   refine zPu 19 ?_
   refine zPu 20 ?_
   refine zPn 21 ?_
   refine zPn 22 ?_
   refine zPn 23 ?_
   refine zPn 24 ?_
   refine zPn 25 ?_
   refine zPu 26 ?_
   refine zPu 27 ?_
   refine zPn 28 ?_
   refine zPn 29 ?_
   refine zPn 30 ?_
   refine zPn 31 ?_
   refine zPn 32 ?_
   refine zPn 33 ?_
   refine zPn 34 ?_
   refine zPu 35 ?_
   refine done_ (done_of HT_.1 (by kernel_rfl)) ?_
   try go_wp2
   go_meet
   case rel => exact ⟨_, (true), zJJ, H', ⟨by first | omega | exact Nat.le_refl _⟩, ⟨by refine zrS ?_; exact Kd.S_mono HO497.1 (fun _ hk => ⟨hk.1.1.1.2, ⟨hk.1.1.2, hk.1.2⟩⟩)⟩, ⟨by refine zrR ?_; exact Kd.R_mono HO501.1 (fun _ hk => trivial)⟩, ⟨zR HO520.1⟩, ⟨zR HO523.1⟩, ⟨zK BK524.1⟩, ⟨zB0⟩⟩
  subst c36
  rw [if_pos rfl] at H
  replace H := zO H
  obtain ⟨t531, A37, H⟩ := H
  replace H := zO H
  obtain ⟨t532, A38, H⟩ := H
  by_cases c39 : (t531 != t532) = true
  ·rw [if_pos c39] at H
   have c39b0 : (t531 != t532) = true := c39
   (try (have c39b1 : decide (t531 = t532) = false := by simpa using c39))
   (try (have c39b2 : (t531 == t532) = false := by simpa using c39))
   (try (have c39b3 : ¬ (t531 = t532) := by simpa using c39))
   clear c39
   have H' := zM H
   clear H
   try go_wp2
   replace HO497 := zM (Kd.S_drew HO497.1)
   replace HO501 := zM (Kd.R_drew HO501.1)
   replace HO505 := zM (Kd.R_drew HO505.1)
   replace HO508 := zM (Kd.S_drew HO508.1)
   replace HO512 := zM (Kd.R_drew HO512.1)
   replace HO516 := zM (Kd.R_drew HO516.1)
   replace HO520 := zM (Kd.R_drew HO520.1)
   replace HO523 := zM (Kd.R_drew HO523.1)
   replace HO528 := zM (Kd.S_drew HO528.1)
   replace BK524 := zM (blk_drew BK524.1)
   replace HB := zM (below_drew1 HB.1)
   obtain ⟨Ao41, co41, eo41⟩ := Kd.R_slice HO501.1
   (first | subst eo41 | (injection eo41 with f1_ f2_ f3_; have f4_ := f1_.symm; have f5_ := f3_.symm; clear f1_ f2_ f3_; subst f4_; subst f5_))
   obtain ⟨Ao42, co42, eo42⟩ := Kd.R_slice HO505.1
   (first | subst eo42 | (injection eo42 with f1_ f2_ f3_; have f4_ := f1_.symm; have f5_ := f3_.symm; clear f1_ f2_ f3_; subst f4_; subst f5_))
   refine start_ (n := 36) (S := fun w' => w'.cell? ⟨gb524, 0, none⟩ = some (.string t517) ∧ w'.cell? ⟨gb524, 1, none⟩ = some (.slice Ao24 t518.length co24) ∧ w'.cell? ⟨gb524, 2, none⟩ = some (.slice Ao25 t521.length co25)) (ds := []) zq14_0 (by kernel_rfl) rfl rfl ⟨(blk_cell BK524.1 0).trans rfl, (blk_cell BK524.1 1).trans rfl, (blk_cell BK524.1 2).trans rfl⟩ (fun hHeld => ?_); refine with_tabW laws_FnLinked.tab11 laws_FnLinked.bits11 (fun HT_ HW_ => ?_)
   generalize w26.drew = w40 at HO497 HO501 HO505 HO508 HO512 HO516 HO520 HO523 HO528 BK524 HB hHeld ⊢
   refine zPu 0 ?_
   refine zPu 1 ?_
   refine zPu 2 ?_
   refine zPu 3 ?_
   refine zPu 4 ?_
   refine zPu 5 ?_
   refine zOn 6 (some 63) fun K hK => ?_
   refine zGs Try.func25 #[.slice Ao41 t498.length co41, .slice Ao42 t502.length co42] ?_
   with_reducible refine (laws_sameInts.calls k _ _ t498 _ _ t502 true _ ?side1 ?side2 ?side3 ?side4 A29.1).mono ?_
   (case side1 => exact zC (Kd.R_reads' HO501.1).2.2)
   (case side2 => exact (Kd.R_reads' HO501.1).2.1)
   (case side3 => exact zC (Kd.R_reads' HO505.1).2.2)
   (case side4 => exact (Kd.R_reads' HO505.1).2.1)
   rintro e w' ⟨rfl, ⟨nd, rfl⟩⟩
   refine ⟨_, rfl, ?_⟩
   obtain ⟨Ao43, co43, eo43⟩ := Kd.R_slice HO512.1
   (first | subst eo43 | (injection eo43 with f1_ f2_ f3_; have f4_ := f1_.symm; have f5_ := f3_.symm; clear f1_ f2_ f3_; subst f4_; subst f5_))
   obtain ⟨Ao44, co44, eo44⟩ := Kd.R_slice HO516.1
   (first | subst eo44 | (injection eo44 with f1_ f2_ f3_; have f4_ := f1_.symm; have f5_ := f3_.symm; clear f1_ f2_ f3_; subst f4_; subst f5_))
   refine hK.out _ _ zCs fun hHeld => ?_
   clear hK K
   refine zNo ?_
   refine zPu 7 ?_
   refine zPu 8 ?_
   refine zPu 9 ?_
   refine zPu 10 ?_
   refine zPu 11 ?_
   refine zPu 12 ?_
   refine zPu 13 ?_
   refine zPu 14 ?_
   refine zPu 15 ?_
   refine zPu 16 ?_
   refine zOn 17 (some 74) fun K hK => ?_
   refine zGs Try.func25 #[.slice Ao43 t509.length co43, .slice Ao44 t513.length co44] ?_
   with_reducible refine (laws_sameInts.calls k _ _ t509 _ _ t513 true _ ?side1 ?side2 ?side3 ?side4 A35.1).mono ?_
   (case side1 => exact zC (Kd.R_reads' HO512.1).2.2)
   (case side2 => exact (Kd.R_reads' HO512.1).2.1)
   (case side3 => exact zC (Kd.R_reads' HO516.1).2.2)
   (case side4 => exact (Kd.R_reads' HO516.1).2.1)
   rintro e w' ⟨rfl, ⟨nd, rfl⟩⟩
   refine ⟨_, rfl, ?_⟩
   refine hK.out _ _ zCs fun hHeld => ?_
   clear hK K
   refine zNo ?_
   refine zPu 18 ?_
   refine zPu 19 ?_
   refine zPu 20 ?_
   refine zTk3 21 hHeld ?_
   refine zTk3 23 hHeld ?_
   refine zOn 22 (some 79) fun K hK => ?_
   refine zGs Try.func26 #[.agg #[.string t517, .slice Ao24 t518.length co24, .slice Ao25 t521.length co25]] ?_
   with_reducible refine (impl_PartOk.calls k t517 _ _ t518 _ _ t521 t531 _ ?side1 ?side2 ?side3 ?side4 A37.1).mono ?_
   (case side1 => exact zC (Kd.R_reads' HO520.1).2.2)
   (case side2 => exact (Kd.R_reads' HO520.1).2.1)
   (case side3 => exact zC (Kd.R_reads' HO523.1).2.2)
   (case side4 => exact (Kd.R_reads' HO523.1).2.1)
   rintro e w45 ⟨rfl, hb⟩
   refine ⟨_, rfl, ?_⟩
   replace HO497 := zM (Kd.S_below (zS HO497.1) hb)
   replace HO501 := zM (Kd.R_below (zR HO501.1) hb)
   replace HO505 := zM (Kd.R_below (zR HO505.1) hb)
   replace HO508 := zM (Kd.S_below (zS HO508.1) hb)
   replace HO512 := zM (Kd.R_below (zR HO512.1) hb)
   replace HO516 := zM (Kd.R_below (zR HO516.1) hb)
   replace HO520 := zM (Kd.R_below (zR HO520.1) hb)
   replace HO523 := zM (Kd.R_below (zR HO523.1) hb)
   replace HO528 := zM (Kd.S_below (zS HO528.1) hb)
   replace BK524 := zM (zb BK524.1 hb)
   replace HB := zM (below_step zB0 hb)
   refine hK.out _ _ zCs fun hHeld => ?_
   clear hK K
   refine zNo ?_
   refine zOn 24 (some 81) fun K hK => ?_
   refine zGs Try.func27 #[.agg #[.string t517, .slice Ao24 t518.length co24, .slice Ao25 t521.length co25]] ?_
   with_reducible refine (spec_PartOk.calls k t517 _ _ t518 _ _ t521 t532 _ ?side1 ?side2 ?side3 ?side4 A38.1).mono ?_
   (case side1 => exact zC (Kd.R_reads' HO520.1).2.2)
   (case side2 => exact (Kd.R_reads' HO520.1).2.1)
   (case side3 => exact zC (Kd.R_reads' HO523.1).2.2)
   (case side4 => exact (Kd.R_reads' HO523.1).2.1)
   rintro e w46 ⟨rfl, hb⟩
   refine ⟨_, rfl, ?_⟩
   replace HO497 := zM (Kd.S_below (zS HO497.1) hb)
   replace HO501 := zM (Kd.R_below (zR HO501.1) hb)
   replace HO505 := zM (Kd.R_below (zR HO505.1) hb)
   replace HO508 := zM (Kd.S_below (zS HO508.1) hb)
   replace HO512 := zM (Kd.R_below (zR HO512.1) hb)
   replace HO516 := zM (Kd.R_below (zR HO516.1) hb)
   replace HO520 := zM (Kd.R_below (zR HO520.1) hb)
   replace HO523 := zM (Kd.R_below (zR HO523.1) hb)
   replace HO528 := zM (Kd.S_below (zS HO528.1) hb)
   replace BK524 := zM (zb BK524.1 hb)
   replace HB := zM (below_step zB0 hb)
   refine hK.out _ _ zCs fun hHeld => ?_
   clear hK K
   refine zNo ?_
   refine zPu 25 ?_
   refine zPu 26 ?_
   refine zPu 27 ?_
   refine zPn 28 ?_
   refine zPn 29 ?_
   refine zPn 30 ?_
   refine zPn 31 ?_
   refine zPn 32 ?_
   refine zPn 33 ?_
   refine zPn 34 ?_
   refine zPu 35 ?_
   refine done_ (done_of HT_.1 (by kernel_rfl)) ?_
   try go_wp2
   go_meet
   case rel => exact ⟨_, (true), zJJ, H', ⟨by first | omega | exact Nat.le_refl _⟩, ⟨by refine zrS ?_; exact Kd.S_mono HO497.1 (fun _ hk => ⟨hk.1.1.1.2, ⟨hk.1.1.2, hk.1.2⟩⟩)⟩, ⟨by refine zrR ?_; exact Kd.R_mono HO501.1 (fun _ hk => trivial)⟩, ⟨zR HO520.1⟩, ⟨zR HO523.1⟩, ⟨zK BK524.1⟩, ⟨zB0⟩⟩
  rw [if_neg c39] at H
  have c39b0 : (t531 != t532) = false := by simpa using c39
  (try (have c39b1 : decide (t531 = t532) = true := by simpa using c39))
  (try (have c39b2 : (t531 == t532) = true := by simpa using c39))
  clear c39
  replace H := zO H
  obtain ⟨t533, A47, H⟩ := H
  replace H := zO H
  obtain ⟨t534, A48, H⟩ := H
  have H' := zM H
  clear H
  try go_wp2
  replace HO497 := zM (Kd.S_drew HO497.1)
  replace HO501 := zM (Kd.R_drew HO501.1)
  replace HO505 := zM (Kd.R_drew HO505.1)
  replace HO508 := zM (Kd.S_drew HO508.1)
  replace HO512 := zM (Kd.R_drew HO512.1)
  replace HO516 := zM (Kd.R_drew HO516.1)
  replace HO520 := zM (Kd.R_drew HO520.1)
  replace HO523 := zM (Kd.R_drew HO523.1)
  replace HO528 := zM (Kd.S_drew HO528.1)
  replace BK524 := zM (blk_drew BK524.1)
  replace HB := zM (below_drew1 HB.1)
  obtain ⟨Ao50, co50, eo50⟩ := Kd.R_slice HO501.1
  (first | subst eo50 | (injection eo50 with f1_ f2_ f3_; have f4_ := f1_.symm; have f5_ := f3_.symm; clear f1_ f2_ f3_; subst f4_; subst f5_))
  obtain ⟨Ao51, co51, eo51⟩ := Kd.R_slice HO505.1
  (first | subst eo51 | (injection eo51 with f1_ f2_ f3_; have f4_ := f1_.symm; have f5_ := f3_.symm; clear f1_ f2_ f3_; subst f4_; subst f5_))
  refine start_ (n := 36) (S := fun w' => w'.cell? ⟨gb524, 0, none⟩ = some (.string t517) ∧ w'.cell? ⟨gb524, 1, none⟩ = some (.slice Ao24 t518.length co24) ∧ w'.cell? ⟨gb524, 2, none⟩ = some (.slice Ao25 t521.length co25)) (ds := []) zq14_0 (by kernel_rfl) rfl rfl ⟨(blk_cell BK524.1 0).trans rfl, (blk_cell BK524.1 1).trans rfl, (blk_cell BK524.1 2).trans rfl⟩ (fun hHeld => ?_); refine with_tabW laws_FnLinked.tab11 laws_FnLinked.bits11 (fun HT_ HW_ => ?_)
  generalize w26.drew = w49 at HO497 HO501 HO505 HO508 HO512 HO516 HO520 HO523 HO528 BK524 HB hHeld ⊢
  refine zPu 0 ?_
  refine zPu 1 ?_
  refine zPu 2 ?_
  refine zPu 3 ?_
  refine zPu 4 ?_
  refine zPu 5 ?_
  refine zOn 6 (some 63) fun K hK => ?_
  refine zGs Try.func25 #[.slice Ao50 t498.length co50, .slice Ao51 t502.length co51] ?_
  with_reducible refine (laws_sameInts.calls k _ _ t498 _ _ t502 true _ ?side1 ?side2 ?side3 ?side4 A29.1).mono ?_
  (case side1 => exact zC (Kd.R_reads' HO501.1).2.2)
  (case side2 => exact (Kd.R_reads' HO501.1).2.1)
  (case side3 => exact zC (Kd.R_reads' HO505.1).2.2)
  (case side4 => exact (Kd.R_reads' HO505.1).2.1)
  rintro e w' ⟨rfl, ⟨nd, rfl⟩⟩
  refine ⟨_, rfl, ?_⟩
  obtain ⟨Ao52, co52, eo52⟩ := Kd.R_slice HO512.1
  (first | subst eo52 | (injection eo52 with f1_ f2_ f3_; have f4_ := f1_.symm; have f5_ := f3_.symm; clear f1_ f2_ f3_; subst f4_; subst f5_))
  obtain ⟨Ao53, co53, eo53⟩ := Kd.R_slice HO516.1
  (first | subst eo53 | (injection eo53 with f1_ f2_ f3_; have f4_ := f1_.symm; have f5_ := f3_.symm; clear f1_ f2_ f3_; subst f4_; subst f5_))
  refine hK.out _ _ zCs fun hHeld => ?_
  clear hK K
  refine zNo ?_
  refine zPu 7 ?_
  refine zPu 8 ?_
  refine zPu 9 ?_
  refine zPu 10 ?_
  refine zPu 11 ?_
  refine zPu 12 ?_
  refine zPu 13 ?_
  refine zPu 14 ?_
  refine zPu 15 ?_
  refine zPu 16 ?_
  refine zOn 17 (some 74) fun K hK => ?_
  refine zGs Try.func25 #[.slice Ao52 t509.length co52, .slice Ao53 t513.length co53] ?_
  with_reducible refine (laws_sameInts.calls k _ _ t509 _ _ t513 true _ ?side1 ?side2 ?side3 ?side4 A35.1).mono ?_
  (case side1 => exact zC (Kd.R_reads' HO512.1).2.2)
  (case side2 => exact (Kd.R_reads' HO512.1).2.1)
  (case side3 => exact zC (Kd.R_reads' HO516.1).2.2)
  (case side4 => exact (Kd.R_reads' HO516.1).2.1)
  rintro e w' ⟨rfl, ⟨nd, rfl⟩⟩
  refine ⟨_, rfl, ?_⟩
  refine hK.out _ _ zCs fun hHeld => ?_
  clear hK K
  refine zNo ?_
  refine zPu 18 ?_
  refine zPu 19 ?_
  refine zPu 20 ?_
  refine zTk3 21 hHeld ?_
  refine zTk3 23 hHeld ?_
  refine zOn 22 (some 79) fun K hK => ?_
  refine zGs Try.func26 #[.agg #[.string t517, .slice Ao24 t518.length co24, .slice Ao25 t521.length co25]] ?_
  with_reducible refine (impl_PartOk.calls k t517 _ _ t518 _ _ t521 t531 _ ?side1 ?side2 ?side3 ?side4 A37.1).mono ?_
  (case side1 => exact zC (Kd.R_reads' HO520.1).2.2)
  (case side2 => exact (Kd.R_reads' HO520.1).2.1)
  (case side3 => exact zC (Kd.R_reads' HO523.1).2.2)
  (case side4 => exact (Kd.R_reads' HO523.1).2.1)
  rintro e w54 ⟨rfl, hb⟩
  refine ⟨_, rfl, ?_⟩
  replace HO497 := zM (Kd.S_below (zS HO497.1) hb)
  replace HO501 := zM (Kd.R_below (zR HO501.1) hb)
  replace HO505 := zM (Kd.R_below (zR HO505.1) hb)
  replace HO508 := zM (Kd.S_below (zS HO508.1) hb)
  replace HO512 := zM (Kd.R_below (zR HO512.1) hb)
  replace HO516 := zM (Kd.R_below (zR HO516.1) hb)
  replace HO520 := zM (Kd.R_below (zR HO520.1) hb)
  replace HO523 := zM (Kd.R_below (zR HO523.1) hb)
  replace HO528 := zM (Kd.S_below (zS HO528.1) hb)
  replace BK524 := zM (zb BK524.1 hb)
  replace HB := zM (below_step zB0 hb)
  refine hK.out _ _ zCs fun hHeld => ?_
  clear hK K
  refine zNo ?_
  refine zOn 24 (some 81) fun K hK => ?_
  refine zGs Try.func27 #[.agg #[.string t517, .slice Ao24 t518.length co24, .slice Ao25 t521.length co25]] ?_
  with_reducible refine (spec_PartOk.calls k t517 _ _ t518 _ _ t521 t532 _ ?side1 ?side2 ?side3 ?side4 A38.1).mono ?_
  (case side1 => exact zC (Kd.R_reads' HO520.1).2.2)
  (case side2 => exact (Kd.R_reads' HO520.1).2.1)
  (case side3 => exact zC (Kd.R_reads' HO523.1).2.2)
  (case side4 => exact (Kd.R_reads' HO523.1).2.1)
  rintro e w55 ⟨rfl, hb⟩
  refine ⟨_, rfl, ?_⟩
  replace HO497 := zM (Kd.S_below (zS HO497.1) hb)
  replace HO501 := zM (Kd.R_below (zR HO501.1) hb)
  replace HO505 := zM (Kd.R_below (zR HO505.1) hb)
  replace HO508 := zM (Kd.S_below (zS HO508.1) hb)
  replace HO512 := zM (Kd.R_below (zR HO512.1) hb)
  replace HO516 := zM (Kd.R_below (zR HO516.1) hb)
  replace HO520 := zM (Kd.R_below (zR HO520.1) hb)
  replace HO523 := zM (Kd.R_below (zR HO523.1) hb)
  replace HO528 := zM (Kd.S_below (zS HO528.1) hb)
  replace BK524 := zM (zb BK524.1 hb)
  replace HB := zM (below_step zB0 hb)
  obtain ⟨Ao56, co56, eo56⟩ := Kd.S_slice HO528.1
  (first | subst eo56 | (injection eo56 with f1_ f2_ f3_; have f4_ := f1_.symm; have f5_ := f3_.symm; clear f1_ f2_ f3_; subst f4_; subst f5_))
  refine hK.out _ _ zCs fun hHeld => ?_
  clear hK K
  refine zNo ?_
  refine zPu 25 ?_
  refine zPu 26 ?_
  refine zPu 27 ?_
  refine zPu 28 ?_
  refine zPu 29 ?_
  refine zPu 31 ?_
  refine zPu 32 ?_
  refine zOn 30 (some 87) fun K hK => ?_
  refine zGs Try.func28 #[.slice Ao56 t525.length co56, .string t526] ?_
  with_reducible refine (impl_PartAt.calls _ _ t525 t526 t533 _ ?side1 ?side2 A47.1).mono ?_
  (case side1 => exact zC (Kd.S_reads' HO528.1).2.2)
  (case side2 => exact (Kd.S_reads' HO528.1).2.1)
  rintro e w57 ⟨rfl, hb⟩
  refine ⟨_, rfl, ?_⟩
  replace HO497 := zM (Kd.S_below (zS HO497.1) hb)
  replace HO501 := zM (Kd.R_below (zR HO501.1) hb)
  replace HO505 := zM (Kd.R_below (zR HO505.1) hb)
  replace HO508 := zM (Kd.S_below (zS HO508.1) hb)
  replace HO512 := zM (Kd.R_below (zR HO512.1) hb)
  replace HO516 := zM (Kd.R_below (zR HO516.1) hb)
  replace HO520 := zM (Kd.R_below (zR HO520.1) hb)
  replace HO523 := zM (Kd.R_below (zR HO523.1) hb)
  replace HO528 := zM (Kd.S_below (zS HO528.1) hb)
  replace BK524 := zM (zb BK524.1 hb)
  replace HB := zM (below_step zB0 hb)
  refine hK.out _ _ zCs fun hHeld => ?_
  clear hK K
  refine zNo ?_
  refine zOn 33 (some 90) fun K hK => ?_
  refine zGs Try.func29 #[.slice Ao56 t525.length co56, .string t526] ?_
  with_reducible refine (spec_PartAt.calls k _ _ t525 t526 t534 _ ?side1 ?side2 A48.1).mono ?_
  (case side1 => exact zC (Kd.S_reads' HO528.1).2.2)
  (case side2 => exact (Kd.S_reads' HO528.1).2.1)
  rintro e w' ⟨rfl, ⟨nd, rfl⟩⟩
  refine ⟨_, rfl, ?_⟩
  refine hK.out _ _ zCs fun hHeld => ?_
  clear hK K
  refine zNo ?_
  refine zPu 34 ?_
  refine zPu 35 ?_
  refine done_ (done_of HT_.1 (by kernel_rfl)) ?_
  try go_wp2
  go_meet
  case rel => exact ⟨_, ((t533 != t534)), zJJ, H', ⟨by first | omega | exact Nat.le_refl _⟩, ⟨by refine zrS ?_; exact Kd.S_mono HO497.1 (fun _ hk => ⟨hk.1.1.1.2, ⟨hk.1.1.2, hk.1.2⟩⟩)⟩, ⟨by refine zrR ?_; exact Kd.R_mono HO501.1 (fun _ hk => trivial)⟩, ⟨zR HO520.1⟩, ⟨zR HO523.1⟩, ⟨zK BK524.1⟩, ⟨zB0⟩⟩
 case rest =>
  clear HC12
  obtain ⟨kq, x92_11, rfl, HA, HJ11, HO_3, HO_4, HO_525001, HO_525002, BK524, HB⟩ := hcut
  cases kq with
  | zero => exact absurd HA.1 (by simp [laws_FnLinked.j0])
  | succ kj11 =>
   have H := HA.1
   clear HA
   simp only [laws_FnLinked.j0] at H
   by_cases c66 : x92_11 = true
   ·subst c66
    rw [if_pos rfl] at H
    obtain rfl := Option.some.inj H
    go_wp2
    go_ret
    exact ⟨zE, zB0⟩
   replace c66 := Bool.eq_false_iff.mpr c66
   subst c66
   rw [if_neg zF] at H
   by_cases c67 : t499 = true
   rotate_left
   ·replace c67 := Bool.eq_false_iff.mpr c67
    subst c67
    rw [if_neg zF] at H
    obtain rfl := Option.some.inj H
    obtain ⟨Ao119, co119, eo119⟩ := Kd.R_slice HO_4.1
    subst eo119
    go_wp2
    go_ret
    exact ⟨zE, zB0⟩
   subst c67
   rw [if_pos rfl] at H
   replace H := zO H
   obtain ⟨⟨t535, t536⟩, A68, H⟩ := H
   try dsimp only at H
   have HC69 := zM H
   clear H
   go_upto_region 16 with (first | ((with_reducible refine zG Try.func21 100 #[.slice Ao14 t495.length co14] ?_); (with_reducible refine (impl_Layout.calls kj11 _ _ t495 t535 t536 _ ?side1 ?side2 A68.1).mono ?_); (case side1 => exact zC (Kd.S_reads' HO_3.1).2.2); (case side2 => exact (Kd.S_reads' HO_3.1).2.1); rintro e w70 ⟨v537, rfl, ho0, hb⟩; refine ⟨_, rfl, ?_⟩; replace HO_3 := zM (Kd.S_below (zS HO_3.1) hb); replace HO_525001 := zM (Kd.R_below (zR HO_525001.1) hb); replace HO_525002 := zM (Kd.R_below (zR HO_525002.1) hb); have HO538 := zM (Kd.R_lower (Kd.R_new' ho0 (Kd.R_lt (zR HO_4.1))) (below_size zB0)); replace HO_4 := zM (Kd.R_elder' (zR HO_4.1) (Kd.R_base ho0) hb); replace BK524 := zM (zb BK524.1 hb); replace HB := zM (below_step zB0 hb); clear hb ho0))
   (try simp only [Act.put, List.setIfInBounds_toArray, List.set_cons_zero, List.set_cons_succ])
   go_cut [109] (fun v109 wc => ∃ (kq : Nat) (x109_68 : Bool), v109 = .bool x109_68 ∧ Aside0 (laws_FnLinked.j1 kq t495 t498 t535 x109_68 = some r) ∧ Aside0 (kq ≤ kj11) ∧ Aside0 (Kd.S k49 49 wc w.heap.size (fun k_ => some k_ ≠ ((.slice Ao24 t518.length co24) : Value).ownBlock ∧ some k_ ≠ ((.slice Ao25 t521.length co25) : Value).ownBlock ∧ k_ ≠ gb524) (.slice Ao14 t495.length co14) t495) ∧ Aside0 (Kd.R (Kd.int .i64) 3 wc w.heap.size (fun k_ => some k_ ≠ (v537 : Value).ownBlock) v500 t498) ∧ Aside0 (Kd.R (Kd.int .i64) 3 wc w.heap.size (fun k_ => some k_ ≠ (v500 : Value).ownBlock) v537 t535) ∧ Aside0 (Kd.R k57 57 wc w.heap.size (fun _ => True) (.slice Ao24 t518.length co24) t518) ∧ Aside0 (Kd.R k61 61 wc w.heap.size (fun _ => True) (.slice Ao25 t521.length co25) t521) ∧ Aside0 (wc.heap[gb524]? = some (.cells #[.string t517, (.slice Ao24 t518.length co24), (.slice Ao25 t521.length co25)] 49 (0, 0))) ∧ Aside0 (Below w.heap.size w wc))
   case first =>
    have H := HC69.1
    clear HC69
    by_cases c71 : t536 = true
    rotate_left
    ·replace c71 := Bool.eq_false_iff.mpr c71
     subst c71
     rw [if_neg zF] at H
     have H' := zM H
     clear H
     go_wp2
     go_meet
     case rel => exact ⟨_, (true), zJJ, H', ⟨by have := HJ11.1; first | omega | exact Nat.le_refl _⟩, ⟨zS HO_3.1⟩, ⟨by refine zrR ?_; exact Kd.R_mono HO_4.1 (fun _ hk => hk.2)⟩, ⟨by refine zrR ?_; exact Kd.R_mono HO538.1 (fun _ hk => hk.2)⟩, ⟨zR HO_525001.1⟩, ⟨zR HO_525002.1⟩, ⟨zK BK524.1⟩, ⟨zB0⟩⟩
    subst c71
    rw [if_pos rfl] at H
    have H' := zM H
    clear H
    obtain ⟨Ao72, co72, eo72⟩ := Kd.R_slice HO_4.1
    subst eo72
    go_wp2
    go_meet
    case rel => exact ⟨_, (((t498.length : Int) != 24)), zJJ, H', ⟨by have := HJ11.1; first | omega | exact Nat.le_refl _⟩, ⟨zS HO_3.1⟩, ⟨by refine zrR ?_; exact Kd.R_mono HO_4.1 (fun _ hk => hk.2)⟩, ⟨by refine zrR ?_; exact Kd.R_mono HO538.1 (fun _ hk => hk.2)⟩, ⟨zR HO_525001.1⟩, ⟨zR HO_525002.1⟩, ⟨zK BK524.1⟩, ⟨zB0⟩⟩
   case rest =>
    clear HC69
    obtain ⟨kq, x109_68, rfl, HA, HJ68, HO_3, HO_4, HO_16, HO_525001, HO_525002, BK524, HB⟩ := hcut
    cases kq with
    | zero => exact absurd HA.1 (by simp [laws_FnLinked.j1])
    | succ kj68 =>
     have H := HA.1
     clear HA
     simp only [laws_FnLinked.j1] at H
     by_cases c73 : x109_68 = true
     ·subst c73
      rw [if_pos rfl] at H
      obtain rfl := Option.some.inj H
      go_wp2
      go_ret
      exact ⟨zE, zB0⟩
     replace c73 := Bool.eq_false_iff.mpr c73
     subst c73
     rw [if_neg zF] at H
     have H' := zM H
     clear H
     go_wp2
     go_loopg [18] kj68 (fun kq v18 w' => ∃ (x18_3 : Int), v18 = .int .i64 x18_3 ∧ Aside0 (laws_FnLinked.l0 kq t495 t498 t535 x18_3 = some r) ∧ Aside0 (kq ≤ kj68) ∧ Aside0 (Kd.S k49 49 w' w.heap.size (fun k_ => some k_ ≠ ((.slice Ao24 t518.length co24) : Value).ownBlock ∧ some k_ ≠ ((.slice Ao25 t521.length co25) : Value).ownBlock ∧ k_ ≠ gb524) (.slice Ao14 t495.length co14) t495) ∧ Aside0 (Kd.R (Kd.int .i64) 3 w' w.heap.size (fun k_ => some k_ ≠ (v537 : Value).ownBlock) v500 t498) ∧ Aside0 (Kd.R (Kd.int .i64) 3 w' w.heap.size (fun k_ => some k_ ≠ (v500 : Value).ownBlock) v537 t535) ∧ Aside0 (Kd.R k57 57 w' w.heap.size (fun _ => True) (.slice Ao24 t518.length co24) t518) ∧ Aside0 (Kd.R k61 61 w' w.heap.size (fun _ => True) (.slice Ao25 t521.length co25) t521) ∧ Aside0 (w'.heap[gb524]? = some (.cells #[.string t517, (.slice Ao24 t518.length co24), (.slice Ao25 t521.length co25)] 49 (0, 0))) ∧ Aside0 (Below w.heap.size w w'))
     case atStart => exact ⟨(0), zJJ, H', ⟨Nat.le_refl _⟩, ⟨zS HO_3.1⟩, ⟨zR HO_4.1⟩, ⟨zR HO_16.1⟩, ⟨zR HO_525001.1⟩, ⟨zR HO_525002.1⟩, ⟨zK BK524.1⟩, ⟨zB0⟩⟩
     case round =>
      clear H'
      obtain ⟨x18_3, rfl, HA, HK3, HO_3, HO_4, HO_16, HO_525001, HO_525002, BK524, HB⟩ := hrel
      cases gk with
      | zero => exact absurd HA.1 (by simp [laws_FnLinked.l0])
      | succ k3 =>
       have H := HA.1
       clear HA
       simp only [laws_FnLinked.l0] at H
       by_cases c74 : x18_3 < (t495.length : Int)
       rotate_left
       ·rw [if_neg c74] at H
        have c74b0 := decide_eq_false c74
        clear c74
        obtain rfl := Option.some.inj H
        go_wp2
        go_ret
        exact ⟨zE, zB0⟩
       rw [if_pos c74] at H
       have c74b0 := decide_eq_true c74
       clear c74
       have H' := zM H
       clear H
       go_wp2
       go_loopg [19] k3 (fun kq v19 w' => ∃ (x19_4 : Int), v19 = .int .i64 x19_4 ∧ Aside0 (laws_FnLinked.l1 kq t495 t498 t535 x18_3 x19_4 = some r) ∧ Aside0 (kq ≤ k3) ∧ Aside0 (Kd.S k49 49 w' w.heap.size (fun k_ => some k_ ≠ ((.slice Ao24 t518.length co24) : Value).ownBlock ∧ some k_ ≠ ((.slice Ao25 t521.length co25) : Value).ownBlock ∧ k_ ≠ gb524) (.slice Ao14 t495.length co14) t495) ∧ Aside0 (Kd.R (Kd.int .i64) 3 w' w.heap.size (fun k_ => some k_ ≠ (v537 : Value).ownBlock) v500 t498) ∧ Aside0 (Kd.R (Kd.int .i64) 3 w' w.heap.size (fun k_ => some k_ ≠ (v500 : Value).ownBlock) v537 t535) ∧ Aside0 (Kd.R k57 57 w' w.heap.size (fun _ => True) (.slice Ao24 t518.length co24) t518) ∧ Aside0 (Kd.R k61 61 w' w.heap.size (fun _ => True) (.slice Ao25 t521.length co25) t521) ∧ Aside0 (w'.heap[gb524]? = some (.cells #[.string t517, (.slice Ao24 t518.length co24), (.slice Ao25 t521.length co25)] 49 (0, 0))) ∧ Aside0 (Below w.heap.size w w'))
       case atStart => exact ⟨(0), zJJ, H', ⟨Nat.le_refl _⟩, ⟨zS HO_3.1⟩, ⟨zR HO_4.1⟩, ⟨zR HO_16.1⟩, ⟨zR HO_525001.1⟩, ⟨zR HO_525002.1⟩, ⟨zK BK524.1⟩, ⟨zB0⟩⟩
       case round =>
        clear H'
        obtain ⟨x19_4, rfl, HA, HK4, HO_3, HO_4, HO_16, HO_525001, HO_525002, BK524, HB⟩ := hrel
        cases gk with
        | zero => exact absurd HA.1 (by simp [laws_FnLinked.l1])
        | succ k4 =>
         have H := HA.1
         clear HA
         simp only [laws_FnLinked.l1] at H
         replace H := zIt H
         obtain ⟨c75b0, H⟩ := H
         replace H := zIt H
         obtain ⟨c76b0, H⟩ := H
         by_cases c77 : x19_4 < (((rd_T49 t495 x18_3).f1).length : Int)
         rotate_left
         ·rw [if_neg c77] at H
          have c77b0 := decide_eq_false c77
          clear c77
          have H' := zM H
          clear H
          have p539 : 0 ≤ (x18_3 : Int) := zA
          have q539 : x18_3 < (t495.length : Int) := zA
          obtain ⟨ad539, A539_1, c539_1, A539_2, c539_2, e539, hx539_0, hx539_1, hx539_2, hl539_1, hi539_1, hl539_2, hi539_2⟩ := at_T49 (Kd.S_reads' HO_3.1).2.2 x18_3 p539 q539
          cases e539
          obtain ⟨ce539, hce539, hMe539, hcc539⟩ := Kd.S_get HO_3.1 z49 x18_3 p539 (by first | exact q539 | exact zA | (have e_ := (Kd.S_reads' HO_3.1).1; omega))
          obtain ⟨ve539_1, ve539_2, rfl, ge539_1, ge539_2⟩ := k49_openM hMe539
          have hv539_1 := hcc539 1 _ rfl
          rw [add_field _ _ 1 (by omega)] at hv539_1
          replace hv539_1 := Option.some.inj (hv539_1.symm.trans hx539_1)
          rw [hv539_1] at ge539_1
          have HL539_1 := zM (show Kd.R k57 57 _ _ _ _ ((rd_T49 t495 x18_3).f1) from ge539_1)
          clear hv539_1 ge539_1
          have hv539_2 := hcc539 2 _ rfl
          rw [add_field _ _ 2 (by omega)] at hv539_2
          replace hv539_2 := Option.some.inj (hv539_2.symm.trans hx539_2)
          rw [hv539_2] at ge539_2
          have HL539_2 := zM (show Kd.R k61 61 _ _ _ _ ((rd_T49 t495 x18_3).f2) from ge539_2)
          clear hv539_2 ge539_2 hcc539 hce539
          have HR539_1 := zM hi539_1
          have HC539_1 := zM hl539_1
          clear hi539_1 hl539_1
          have HR539_2 := zM hi539_2
          have HC539_2 := zM hl539_2
          clear hi539_2 hl539_2
          replace p539 := eq_true p539
          replace q539 := eq_true q539
          go_wp2
          go_roundg k4
          case measure => have := HJ11.1; have := HJ68.1; have := HK3.1; have := HK4.1; omega
          case rel => exact ⟨(wrap64 (x18_3 + 1)), zJJ, H', ⟨by have := HJ11.1; have := HJ68.1; have := HK3.1; have := HK4.1; omega⟩, ⟨zS HO_3.1⟩, ⟨zR HO_4.1⟩, ⟨zR HO_16.1⟩, ⟨zR HO_525001.1⟩, ⟨zR HO_525002.1⟩, ⟨zK BK524.1⟩, ⟨zB0⟩⟩
         rw [if_pos c77] at H
         have c77b0 := decide_eq_true c77
         clear c77
         replace H := zIt H
         obtain ⟨c78b0, H⟩ := H
         obtain ⟨ji79, hji79⟩ : ∃ j_ : Int, (wrap64 ((rd t535 x18_3) + x19_4)) = j_ := ⟨_, rfl⟩
         replace H : (if 0 ≤ (ji79) then (if (ji79) < (t498.length : Int) then ((impl_Decode.f (rd t498 (ji79))).bind fun bt542 => (if 0 ≤ x19_4 then (laws_FnLinked.l2 k4 t495 t498 t535 x18_3 x19_4 bt542.2.2.2.2.2 0 bt542.1 bt542.2.1 bt542.2.2.1 bt542.2.2.2.1 bt542.2.2.2.2.1 ((rd_T57 ((rd_T49 t495 x18_3).f1) x19_4).f0) ((rd_T57 ((rd_T49 t495 x18_3).f1) x19_4).f1) ((rd_T57 ((rd_T49 t495 x18_3).f1) x19_4).f2) ((rd_T57 ((rd_T49 t495 x18_3).f1) x19_4).f3) ((rd_T57 ((rd_T49 t495 x18_3).f1) x19_4).f4)) else (none))) else (none)) else (none)) = some r := by first | (rw [hji79] at H; exact H) | (simp only [hji79] at H ⊢; exact H)
         have hji79w : (IntKind.i64.wrap ((rd t535 x18_3) + x19_4)) = ji79 := (i64_w _).trans hji79
         replace H := zIt H
         obtain ⟨c80b0, H⟩ := H
         replace H := zIt H
         obtain ⟨c81b0, H⟩ := H
         replace H := zO H
         obtain ⟨⟨t542, t543, t544, t545, t546, t547⟩, A82, H⟩ := H
         try dsimp only at H
         replace H := zIt H
         obtain ⟨c83b0, H⟩ := H
         have H' := zM H
         clear H
         have p539 : 0 ≤ (x18_3 : Int) := zA
         have q539 : x18_3 < (t495.length : Int) := zA
         obtain ⟨ad539, A539_1, c539_1, A539_2, c539_2, e539, hx539_0, hx539_1, hx539_2, hl539_1, hi539_1, hl539_2, hi539_2⟩ := at_T49 (Kd.S_reads' HO_3.1).2.2 x18_3 p539 q539
         cases e539
         obtain ⟨ce539, hce539, hMe539, hcc539⟩ := Kd.S_get HO_3.1 z49 x18_3 p539 (by first | exact q539 | exact zA | (have e_ := (Kd.S_reads' HO_3.1).1; omega))
         obtain ⟨ve539_1, ve539_2, rfl, ge539_1, ge539_2⟩ := k49_openM hMe539
         have hv539_1 := hcc539 1 _ rfl
         rw [add_field _ _ 1 (by omega)] at hv539_1
         replace hv539_1 := Option.some.inj (hv539_1.symm.trans hx539_1)
         rw [hv539_1] at ge539_1
         have HL539_1 := zM (show Kd.R k57 57 _ _ _ _ ((rd_T49 t495 x18_3).f1) from ge539_1)
         clear hv539_1 ge539_1
         have hv539_2 := hcc539 2 _ rfl
         rw [add_field _ _ 2 (by omega)] at hv539_2
         replace hv539_2 := Option.some.inj (hv539_2.symm.trans hx539_2)
         rw [hv539_2] at ge539_2
         have HL539_2 := zM (show Kd.R k61 61 _ _ _ _ ((rd_T49 t495 x18_3).f2) from ge539_2)
         clear hv539_2 ge539_2 hcc539 hce539
         have HR539_1 := zM hi539_1
         have HC539_1 := zM hl539_1
         clear hi539_1 hl539_1
         have HR539_2 := zM hi539_2
         have HC539_2 := zM hl539_2
         clear hi539_2 hl539_2
         replace p539 := eq_true p539
         replace q539 := eq_true q539
         obtain ⟨Ao84, co84, eo84⟩ := Kd.R_slice HO_16.1
         subst eo84
         obtain ⟨p540, q540, ad540, e540, hx540_0⟩ := zRd (Kd.at_int (Kd.R_reads' HO_16.1).2.2 x18_3)
         cases e540
         obtain ⟨Ao85, co85, eo85⟩ := Kd.R_slice HO_4.1
         subst eo85
         obtain ⟨p541, q541, ad541, e541, hx541_0⟩ := zRd (Kd.at_int (Kd.R_reads' HO_4.1).2.2 (ji79))
         cases e541
         go_wp2_with (first | ((with_reducible refine gate_callee (f := 30) rfl ?_); refine goesL_ (some 136) rfl rfl Try.func30 (by kernel_rfl) rfl #[.int .i64 (rd t498 (ji79))] rfl (by (try simp only [List.map_toArray, List.map_cons, List.map_nil]); first | done | (simp only [hji79]; rfl) | rfl | (simp only [List.length_drop, List.length_take]; rfl)) ?_; (with_reducible refine (impl_Decode.calls (rd t498 (ji79)) t542 t543 t544 t545 t546 t547 _ A82.1).mono ?_); rintro e w86 ⟨rfl, hb⟩; refine ⟨_, rfl, ?_⟩; replace HO_3 := zM (Kd.S_below (zS HO_3.1) hb); replace HO_4 := zM (Kd.R_below (zR HO_4.1) hb); replace HO_16 := zM (Kd.R_below (zR HO_16.1) hb); replace HO_525001 := zM (Kd.R_below (zR HO_525001.1) hb); replace HO_525002 := zM (Kd.R_below (zR HO_525002.1) hb); replace HL539_1 := zM (Kd.R_below (zR HL539_1.1) hb); replace HL539_2 := zM (Kd.R_below (zR HL539_2.1) hb); replace BK524 := zM (zb BK524.1 hb); replace HR539_1 := zM (Kd.C_below (zC HR539_1.1) hb); replace HR539_2 := zM (Kd.C_below (zC HR539_2.1) hb); replace HB := zM (below_step zB0 hb); clear hb) | ((with_reducible refine gate_dst (N := 20) rfl ?_); (try (refine gate_guard (by rfl) ?_; dsimp only)); (with_reducible refine zBx 20 57 #[.int .i64 0, .int .i64 0, .int .i64 0, .int .i64 0, .int .i64 0] ?_); intro gb548 hg w87 hbox hb; replace HO_3 := zM (Kd.S_below (Kd.S_elderB (zS HO_3.1) gb548 (Nat.le_of_eq hg.symm)) hb); replace HO_4 := zM (Kd.R_below (zR HO_4.1) hb); replace HO_16 := zM (Kd.R_below (zR HO_16.1) hb); replace HO_525001 := zM (Kd.R_below (Kd.R_elderB (zR HO_525001.1) gb548 (Nat.le_of_eq hg.symm)) hb); replace HO_525002 := zM (Kd.R_below (zR HO_525002.1) hb); replace HL539_1 := zM (Kd.R_below (Kd.R_elderB (zR HL539_1.1) gb548 (Nat.le_of_eq hg.symm)) hb); replace HL539_2 := zM (Kd.R_below (zR HL539_2.1) hb); replace HR539_1 := zM (Kd.C_below (zC HR539_1.1) hb); replace HR539_2 := zM (Kd.C_below (zC HR539_2.1) hb); have BK548 := zM hbox; have GW548 := zM (zW hg (below_size zB0)); have GE548 := zM (zW hg (below_size zB0)); replace HB := zM (below_step zB0 hb); have NB524_548 := zM ((zn BK524.1 hg : gb524 ≠ gb548)); have NB548_524 := zM ((zm BK524.1 hg : gb548 ≠ gb524)); replace BK524 := zM (zb BK524.1 hb); clear hb hbox hg; have hnb88 := NB548_524.1; have hnc88 := NB524_548.1; have hcz89 := zc_5 (w := w87) BK548.1) | ((with_reducible refine gate_store (t := 57) (p := 20) rfl ?_); refine store_event (t := 57) (p := 20) (v := ?vo_w90) (w1 := (((((w87.setCell ⟨gb548, 0, none⟩ (.int .i64 t542)).setCell ⟨gb548, 1, none⟩ (.int .i64 t543)).setCell ⟨gb548, 2, none⟩ (.int .i64 t544)).setCell ⟨gb548, 3, none⟩ (.int .i64 t545)).setCell ⟨gb548, 4, none⟩ (.int .i64 t546))) ?hg ?ho ?hn ?hr ?_; (case ho => rfl); (case hg => rfl); (case hn => rfl); (case hr => exact zHH); intro w90 hw; have n0_ : Aside0 (Kd.S k49 49 w90 w.heap.size (fun k_ => some k_ ≠ (.slice Ao24 t518.length co24 : Value).ownBlock ∧ some k_ ≠ (.slice Ao25 t521.length co25 : Value).ownBlock ∧ k_ ≠ gb524 ∧ k_ ≠ gb548) (.slice (some ad539) t495.length co14) t495) := ⟨(by rw [hw]; exact (by refine zrS ?_; exact Kd.S_mono (zfS (zfS (zfS (zfS (zfS (Kd.S_mono HO_3.1 (fun k_ hk => (⟨hk, hk.2⟩ : _ ∧ k_ ≠ gb548)))))))) (fun _ hk => ⟨hk.1.1.1, ⟨hk.1.1.2.1, ⟨hk.1.1.2.2, hk.1.2⟩⟩⟩)))⟩; have n1_ : Aside0 (Kd.R (Kd.int .i64) 3 w90 w.heap.size (fun k_ => some k_ ≠ (.slice (some ad540) t535.length co84 : Value).ownBlock) (.slice (some ad541) t498.length co85) t498) := ⟨(by rw [hw]; exact (by refine zrR ?_; exact Kd.R_mono (zfR (zfR (zfR (zfR (zfR (Kd.R_types HO_4.1 BK548.1 (by decide))))))) (fun _ hk => hk.1)))⟩; have n2_ : Aside0 (Kd.R (Kd.int .i64) 3 w90 w.heap.size (fun k_ => some k_ ≠ (.slice (some ad541) t498.length co85 : Value).ownBlock) (.slice (some ad540) t535.length co84) t535) := ⟨(by rw [hw]; exact (by refine zrR ?_; exact Kd.R_mono (zfR (zfR (zfR (zfR (zfR (Kd.R_types HO_16.1 BK548.1 (by decide))))))) (fun _ hk => hk.1)))⟩; have n3_ : Aside0 (Kd.R k57 57 w90 w.heap.size (fun k_ => k_ ≠ gb548) (.slice Ao24 t518.length co24) t518) := ⟨(by rw [hw]; exact (by refine zrR ?_; exact Kd.R_mono (zfR (zfR (zfR (zfR (zfR (Kd.R_mono HO_525001.1 (fun k_ hk => (⟨hk, hk.2⟩ : _ ∧ k_ ≠ gb548)))))))) (fun _ hk => hk.1.2)))⟩; have n4_ : Aside0 (Kd.R k61 61 w90 w.heap.size (fun _ => True) (.slice Ao25 t521.length co25) t521) := ⟨(by rw [hw]; exact (by refine zrR ?_; exact Kd.R_mono (zfR (zfR (zfR (zfR (zfR (Kd.R_types HO_525002.1 BK548.1 (by decide))))))) (fun _ hk => trivial)))⟩; have n5_ : Aside0 (Kd.R k57 57 w90 w.heap.size (fun k_ => some k_ ≠ (.slice (some ad539) t495.length co14 : Value).ownBlock ∧ some k_ ≠ (.slice Ao24 t518.length co24 : Value).ownBlock ∧ some k_ ≠ (.slice Ao25 t521.length co25 : Value).ownBlock ∧ k_ ≠ gb524 ∧ k_ ≠ gb548) (.slice A539_1 ((rd_T49 t495 x18_3).f1).length c539_1) ((rd_T49 t495 x18_3).f1)) := ⟨(by rw [hw]; exact (by refine zrR ?_; exact Kd.R_mono (zfR (zfR (zfR (zfR (zfR (Kd.R_mono HL539_1.1 (fun k_ hk => (⟨hk, hk.2⟩ : _ ∧ k_ ≠ gb548)))))))) (fun _ hk => ⟨hk.1.1.2, ⟨hk.1.1.1.1, ⟨hk.1.1.1.2.1, ⟨hk.1.1.1.2.2, hk.1.2⟩⟩⟩⟩)))⟩; have n6_ : Aside0 (Kd.R k61 61 w90 w.heap.size (fun k_ => some k_ ≠ (.slice (some ad539) t495.length co14 : Value).ownBlock ∧ some k_ ≠ (.slice Ao24 t518.length co24 : Value).ownBlock ∧ some k_ ≠ (.slice Ao25 t521.length co25 : Value).ownBlock ∧ k_ ≠ gb524) (.slice A539_2 ((rd_T49 t495 x18_3).f2).length c539_2) ((rd_T49 t495 x18_3).f2)) := ⟨(by rw [hw]; exact (by refine zrR ?_; exact Kd.R_mono (zfR (zfR (zfR (zfR (zfR (Kd.R_types HL539_2.1 BK548.1 (by decide))))))) (fun _ hk => ⟨hk.1.2, ⟨hk.1.1.1, ⟨hk.1.1.2.1, hk.1.1.2.2⟩⟩⟩)))⟩; have n7_ : Aside0 (w90.heap[gb524]? = some (.cells #[.string t517, .slice Ao24 t518.length co24, .slice Ao25 t521.length co25] 49 (0, 0))) := ⟨(by rw [hw]; exact zPq)⟩; have n8_ : Aside0 (w90.heap[gb548]? = some (.cells #[.int .i64 t542, .int .i64 t543, .int .i64 t544, .int .i64 t545, .int .i64 t546] 57 (0, 0))) := ⟨(by rw [hw]; exact (by exact zp5 (zK BK548.1)))⟩; have n9_ : Aside0 (Below w.heap.size w w90) := ⟨(by rw [hw]; exact zB0)⟩; clear hw; clear HO_3; clear HO_4; clear HO_16; clear HO_525001; clear HO_525002; clear HL539_1; clear HL539_2; clear BK524; clear BK548; clear HB; have HO_3 := n0_; have HO_4 := n1_; have HO_16 := n2_; have HO_525001 := n3_; have HO_525002 := n4_; have HL539_1 := n5_; have HL539_2 := n6_; have BK524 := n7_; have BK548 := n8_; have HB := n9_; clear n0_ n1_ n2_ n3_ n4_ n5_ n6_ n7_ n8_ n9_; have p549 : 0 ≤ (x18_3 : Int) := zA; have q549 : x18_3 < (t495.length : Int) := zA; obtain ⟨ad549, A549_1, c549_1, A549_2, c549_2, e549, hx549_0, hx549_1, hx549_2, hl549_1, hi549_1, hl549_2, hi549_2⟩ := at_T49 (Kd.S_reads' HO_3.1).2.2 x18_3 p549 q549; obtain rfl : ad539 = ad549 := (by injection e549); obtain ⟨ce549, hce549, hMe549, hcc549⟩ := Kd.S_get HO_3.1 z49 x18_3 p549 (by first | exact q549 | exact zA | (have e_ := (Kd.S_reads' HO_3.1).1; omega)); obtain ⟨ve549_1, ve549_2, rfl, ge549_1, ge549_2⟩ := k49_openM hMe549; have hv549_1 := hcc549 1 _ rfl; rw [add_field _ _ 1 (by omega)] at hv549_1; replace hv549_1 := Option.some.inj (hv549_1.symm.trans hx549_1); rw [hv549_1] at ge549_1; have HL549_1 := zM (show Kd.R k57 57 _ _ _ _ ((rd_T49 t495 x18_3).f1) from ge549_1); clear hv549_1 ge549_1; have hv549_2 := hcc549 2 _ rfl; rw [add_field _ _ 2 (by omega)] at hv549_2; replace hv549_2 := Option.some.inj (hv549_2.symm.trans hx549_2); rw [hv549_2] at ge549_2; have HL549_2 := zM (show Kd.R k61 61 _ _ _ _ ((rd_T49 t495 x18_3).f2) from ge549_2); clear hv549_2 ge549_2; clear hcc549 hce549; have HR549_1 := zM hi549_1; have HC549_1 := zM hl549_1; clear hi549_1 hl549_1; have HR549_2 := zM hi549_2; have HC549_2 := zM hl549_2; clear hi549_2 hl549_2; replace p549 := eq_true p549; replace q549 := eq_true q549; have p550 : 0 ≤ (x19_4 : Int) := zA; have q550 : x19_4 < (((rd_T49 t495 x18_3).f1).length : Int) := zA; obtain ⟨ad550, e550, hx550_0, hx550_1, hx550_2, hx550_3, hx550_4⟩ := at_T57 (zC HR549_1.1) x19_4 p550 q550; cases e550; replace p550 := eq_true p550; replace q550 := eq_true q550) | ((with_reducible refine gate_dst (N := 22) rfl ?_); (try (refine gate_guard (by rfl) ?_; dsimp only)); (with_reducible refine zBx 22 57 #[.int .i64 0, .int .i64 0, .int .i64 0, .int .i64 0, .int .i64 0] ?_); intro gb551 hg w91 hbox hb; have n0_ := zM (Kd.S_below (Kd.S_elderB (zS HO_3.1) gb551 (Nat.le_of_eq hg.symm)) hb); have n1_ := zM (Kd.R_below (zR HO_4.1) hb); have n2_ := zM (Kd.R_below (zR HO_16.1) hb); have n3_ := zM (Kd.R_below (Kd.R_elderB (zR HO_525001.1) gb551 (Nat.le_of_eq hg.symm)) hb); have n4_ := zM (Kd.R_below (zR HO_525002.1) hb); have n5_ := zM (Kd.R_below (Kd.R_elderB (zR HL539_1.1) gb551 (Nat.le_of_eq hg.symm)) hb); have n6_ := zM (Kd.R_below (zR HL539_2.1) hb); have n7_ := zM (Kd.R_below (Kd.R_elderB (zR HL549_1.1) gb551 (Nat.le_of_eq hg.symm)) hb); have n8_ := zM (Kd.R_below (zR HL549_2.1) hb); have n9_ := zM (zb BK524.1 hb); have n12_ := zM (zb BK548.1 hb); have n13_ := zM (Kd.C_below (zC HR549_1.1) hb); have n14_ := zM (Kd.C_below (zC HR549_2.1) hb); have n15_ := zM (below_step zB0 hb); have n16_ := zM hbox; have n17_ := zM (zW hg (below_size zB0)); have n18_ := zM (zW hg (below_size zB0)); have n19_ := zM ((zn BK524.1 hg : gb524 ≠ gb551)); have n20_ := zM ((zm BK524.1 hg : gb551 ≠ gb524)); have n21_ := zM ((zn BK548.1 hg : gb548 ≠ gb551)); have n22_ := zM ((zm BK548.1 hg : gb551 ≠ gb548)); clear HO_3; clear HO_4; clear HO_16; clear HO_525001; clear HO_525002; clear HL539_1; clear HL539_2; clear HL549_1; clear HL549_2; clear BK524; clear BK548; clear HR549_1; clear HR549_2; clear HB; have HO_3 := n0_; have HO_4 := n1_; have HO_16 := n2_; have HO_525001 := n3_; have HO_525002 := n4_; have HL539_1 := n5_; have HL539_2 := n6_; have HL549_1 := n7_; have HL549_2 := n8_; have BK524 := n9_; have BK548 := n12_; have HR549_1 := n13_; have HR549_2 := n14_; have HB := n15_; have BK551 := n16_; have GW551 := n17_; have GE551 := n18_; have NB524_551 := n19_; have NB551_524 := n20_; have NB548_551 := n21_; have NB551_548 := n22_; clear n0_ n1_ n2_ n3_ n4_ n5_ n6_ n7_ n8_ n9_ n12_ n13_ n14_ n15_ n16_ n17_ n18_ n19_ n20_ n21_ n22_; clear hb hbox hg; have hnb92 := NB551_524.1; have hnc92 := NB524_551.1; have hnb93 := NB551_548.1; have hnc93 := NB548_551.1; have hcz94 := zc_5 (w := w91) BK551.1))
         go_loopg [23] k4 (fun kq v23 w' => ∃ (x23_5 : Int) (x552004_5 : Int), v23 = .int .i64 x23_5 ∧ Aside0 (laws_FnLinked.l2 kq t495 t498 t535 x18_3 x19_4 t547 x23_5 t542 t543 t544 t545 t546 ((rd_T57 ((rd_T49 t495 x18_3).f1) x19_4).f0) ((rd_T57 ((rd_T49 t495 x18_3).f1) x19_4).f1) ((rd_T57 ((rd_T49 t495 x18_3).f1) x19_4).f2) ((rd_T57 ((rd_T49 t495 x18_3).f1) x19_4).f3) x552004_5 = some r) ∧ Aside0 (kq ≤ k4) ∧ Aside0 (Kd.S k49 49 w' w.heap.size (fun k_ => some k_ ≠ ((.slice Ao24 t518.length co24) : Value).ownBlock ∧ some k_ ≠ ((.slice Ao25 t521.length co25) : Value).ownBlock ∧ k_ ≠ gb524 ∧ k_ ≠ gb548 ∧ k_ ≠ gb551) (.slice (some ad539) t495.length co14) t495) ∧ Aside0 (Kd.R (Kd.int .i64) 3 w' w.heap.size (fun k_ => some k_ ≠ ((.slice (some ad540) t535.length co84) : Value).ownBlock) (.slice (some ad541) t498.length co85) t498) ∧ Aside0 (Kd.R (Kd.int .i64) 3 w' w.heap.size (fun k_ => some k_ ≠ ((.slice (some ad541) t498.length co85) : Value).ownBlock) (.slice (some ad540) t535.length co84) t535) ∧ Aside0 (Kd.R k57 57 w' w.heap.size (fun k_ => k_ ≠ gb548 ∧ k_ ≠ gb551) (.slice Ao24 t518.length co24) t518) ∧ Aside0 (Kd.R k61 61 w' w.heap.size (fun _ => True) (.slice Ao25 t521.length co25) t521) ∧ Aside0 (w'.heap[gb524]? = some (.cells #[.string t517, (.slice Ao24 t518.length co24), (.slice Ao25 t521.length co25)] 49 (0, 0))) ∧ Aside0 (w'.heap[gb548]? = some (.cells #[.int .i64 t542, .int .i64 t543, .int .i64 t544, .int .i64 t545, .int .i64 t546] 57 (0, 0))) ∧ Aside0 (w'.heap[gb551]? = some (.cells #[.int .i64 ((rd_T57 ((rd_T49 t495 x18_3).f1) x19_4).f0), .int .i64 ((rd_T57 ((rd_T49 t495 x18_3).f1) x19_4).f1), .int .i64 ((rd_T57 ((rd_T49 t495 x18_3).f1) x19_4).f2), .int .i64 ((rd_T57 ((rd_T49 t495 x18_3).f1) x19_4).f3), .int .i64 x552004_5] 57 (0, 0))) ∧ Aside0 (Below w.heap.size w w'))
         case atStart => exact ⟨(0), ((rd_T57 ((rd_T49 t495 x18_3).f1) x19_4).f4), zJJ, H', ⟨Nat.le_refl _⟩, ⟨by refine zrS ?_; exact Kd.S_mono (zfS (zfS (zfS (zfS (zfS (Kd.S_mono HO_3.1 (fun k_ hk => (⟨hk, hk.2⟩ : _ ∧ k_ ≠ gb551)))))))) (fun _ hk => ⟨hk.1.1.1, ⟨hk.1.1.2.1, ⟨hk.1.1.2.2.1, ⟨hk.1.1.2.2.2, hk.1.2⟩⟩⟩⟩)⟩, ⟨by refine zrR ?_; exact Kd.R_mono (zfR (zfR (zfR (zfR (zfR (Kd.R_types HO_4.1 BK551.1 (by decide))))))) (fun _ hk => hk.1)⟩, ⟨by refine zrR ?_; exact Kd.R_mono (zfR (zfR (zfR (zfR (zfR (Kd.R_types HO_16.1 BK551.1 (by decide))))))) (fun _ hk => hk.1)⟩, ⟨by refine zrR ?_; exact Kd.R_mono (zfR (zfR (zfR (zfR (zfR (Kd.R_mono HO_525001.1 (fun k_ hk => (⟨hk, hk.2⟩ : _ ∧ k_ ≠ gb551)))))))) (fun _ hk => ⟨hk.1.1, hk.1.2⟩)⟩, ⟨by refine zrR ?_; exact Kd.R_mono (zfR (zfR (zfR (zfR (zfR (Kd.R_types HO_525002.1 BK551.1 (by decide))))))) (fun _ hk => trivial)⟩, ⟨zPq⟩, ⟨zPq⟩, ⟨by exact zp5 (zK BK551.1)⟩, ⟨zB0⟩⟩
         case round =>
          clear H'
          obtain ⟨x23_5, x552004_5, rfl, HA, HK5, HO_3, HO_4, HO_16, HO_525001, HO_525002, BK524, BK548, BK551, HB⟩ := hrel
          cases gk with
          | zero => exact absurd HA.1 (by simp [laws_FnLinked.l2])
          | succ k5 =>
           have H := HA.1
           clear HA
           simp only [laws_FnLinked.l2] at H
           replace H := zIt H
           obtain ⟨c95b0, H⟩ := H
           replace H := zIt H
           obtain ⟨c96b0, H⟩ := H
           by_cases c97 : x23_5 < (((rd_T49 t495 x18_3).f2).length : Int)
           rotate_left
           ·rw [if_neg c97] at H
            have c97b0 := decide_eq_false c97
            clear c97
            by_cases c107 : t547 = true
            rotate_left
            ·replace c107 := Bool.eq_false_iff.mpr c107
             subst c107
             rw [if_neg zF] at H
             obtain rfl := Option.some.inj H
             have p552 : 0 ≤ (x18_3 : Int) := zA
             have q552 : x18_3 < (t495.length : Int) := zA
             obtain ⟨ad552, A552_1, c552_1, A552_2, c552_2, e552, hx552_0, hx552_1, hx552_2, hl552_1, hi552_1, hl552_2, hi552_2⟩ := at_T49 (Kd.S_reads' HO_3.1).2.2 x18_3 p552 q552
             obtain rfl : ad539 = ad552 := (by injection e552)
             obtain ⟨ce552, hce552, hMe552, hcc552⟩ := Kd.S_get HO_3.1 z49 x18_3 p552 (by first | exact q552 | exact zA | (have e_ := (Kd.S_reads' HO_3.1).1; omega))
             obtain ⟨ve552_1, ve552_2, rfl, ge552_1, ge552_2⟩ := k49_openM hMe552
             have hv552_1 := hcc552 1 _ rfl
             rw [add_field _ _ 1 (by omega)] at hv552_1
             replace hv552_1 := Option.some.inj (hv552_1.symm.trans hx552_1)
             rw [hv552_1] at ge552_1
             have HL552_1 := zM (show Kd.R k57 57 _ _ _ _ ((rd_T49 t495 x18_3).f1) from ge552_1)
             clear hv552_1 ge552_1
             have hv552_2 := hcc552 2 _ rfl
             rw [add_field _ _ 2 (by omega)] at hv552_2
             replace hv552_2 := Option.some.inj (hv552_2.symm.trans hx552_2)
             rw [hv552_2] at ge552_2
             have HL552_2 := zM (show Kd.R k61 61 _ _ _ _ ((rd_T49 t495 x18_3).f2) from ge552_2)
             clear hv552_2 ge552_2 hcc552 hce552
             have HR552_1 := zM hi552_1
             have HC552_1 := zM hl552_1
             clear hi552_1 hl552_1
             have HR552_2 := zM hi552_2
             have HC552_2 := zM hl552_2
             clear hi552_2 hl552_2
             replace p552 := eq_true p552
             replace q552 := eq_true q552
             go_wp2
             go_ret
             exact ⟨by first | rfl | (simp [errW_none, errW_some] <;> rfl) | (simp only [← hji79]; first | rfl | (simp [errW_none, errW_some] <;> rfl)) | (simp [*, errW_none, errW_some] <;> rfl), zB0⟩
            subst c107
            rw [if_pos rfl] at H
            by_cases c108 : (!(t542 == ((rd_T57 ((rd_T49 t495 x18_3).f1) x19_4).f0)) || (!(t543 == ((rd_T57 ((rd_T49 t495 x18_3).f1) x19_4).f1)) || (!(t544 == ((rd_T57 ((rd_T49 t495 x18_3).f1) x19_4).f2)) || (!(t545 == ((rd_T57 ((rd_T49 t495 x18_3).f1) x19_4).f3)) || (!(t546 == x552004_5)))))) = true
            ·rw [if_pos c108] at H
             have c108b0 : (!(t542 == ((rd_T57 ((rd_T49 t495 x18_3).f1) x19_4).f0)) || (!(t543 == ((rd_T57 ((rd_T49 t495 x18_3).f1) x19_4).f1)) || (!(t544 == ((rd_T57 ((rd_T49 t495 x18_3).f1) x19_4).f2)) || (!(t545 == ((rd_T57 ((rd_T49 t495 x18_3).f1) x19_4).f3)) || (!(t546 == x552004_5)))))) = true := c108
             clear c108
             obtain rfl := Option.some.inj H
             have p552 : 0 ≤ (x18_3 : Int) := zA
             have q552 : x18_3 < (t495.length : Int) := zA
             obtain ⟨ad552, A552_1, c552_1, A552_2, c552_2, e552, hx552_0, hx552_1, hx552_2, hl552_1, hi552_1, hl552_2, hi552_2⟩ := at_T49 (Kd.S_reads' HO_3.1).2.2 x18_3 p552 q552
             obtain rfl : ad539 = ad552 := (by injection e552)
             obtain ⟨ce552, hce552, hMe552, hcc552⟩ := Kd.S_get HO_3.1 z49 x18_3 p552 (by first | exact q552 | exact zA | (have e_ := (Kd.S_reads' HO_3.1).1; omega))
             obtain ⟨ve552_1, ve552_2, rfl, ge552_1, ge552_2⟩ := k49_openM hMe552
             have hv552_1 := hcc552 1 _ rfl
             rw [add_field _ _ 1 (by omega)] at hv552_1
             replace hv552_1 := Option.some.inj (hv552_1.symm.trans hx552_1)
             rw [hv552_1] at ge552_1
             have HL552_1 := zM (show Kd.R k57 57 _ _ _ _ ((rd_T49 t495 x18_3).f1) from ge552_1)
             clear hv552_1 ge552_1
             have hv552_2 := hcc552 2 _ rfl
             rw [add_field _ _ 2 (by omega)] at hv552_2
             replace hv552_2 := Option.some.inj (hv552_2.symm.trans hx552_2)
             rw [hv552_2] at ge552_2
             have HL552_2 := zM (show Kd.R k61 61 _ _ _ _ ((rd_T49 t495 x18_3).f2) from ge552_2)
             clear hv552_2 ge552_2 hcc552 hce552
             have HR552_1 := zM hi552_1
             have HC552_1 := zM hl552_1
             clear hi552_1 hl552_1
             have HR552_2 := zM hi552_2
             have HC552_2 := zM hl552_2
             clear hi552_2 hl552_2
             replace p552 := eq_true p552
             replace q552 := eq_true q552
             have hnb109 := NB548_524.1
             have hnc109 := NB524_548.1
             have hnb110 := NB548_551.1
             have hnc110 := NB551_548.1
             have hcz111 := zc_5 (w := wr) BK548.1
             have hnb112 := NB551_524.1
             have hnc112 := NB524_551.1
             have hcz113 := zc_5 (w := wr) BK551.1
             go_wp2
             go_ret
             exact ⟨by first | rfl | (simp [errW_none, errW_some] <;> rfl) | (simp only [← hji79]; first | rfl | (simp [errW_none, errW_some] <;> rfl)) | (simp [*, errW_none, errW_some] <;> rfl), zB0⟩
            rw [if_neg c108] at H
            have c108b0 : (!(t542 == ((rd_T57 ((rd_T49 t495 x18_3).f1) x19_4).f0)) || (!(t543 == ((rd_T57 ((rd_T49 t495 x18_3).f1) x19_4).f1)) || (!(t544 == ((rd_T57 ((rd_T49 t495 x18_3).f1) x19_4).f2)) || (!(t545 == ((rd_T57 ((rd_T49 t495 x18_3).f1) x19_4).f3)) || (!(t546 == x552004_5)))))) = false := by simpa using c108
            clear c108
            have H' := zM H
            clear H
            have p552 : 0 ≤ (x18_3 : Int) := zA
            have q552 : x18_3 < (t495.length : Int) := zA
            obtain ⟨ad552, A552_1, c552_1, A552_2, c552_2, e552, hx552_0, hx552_1, hx552_2, hl552_1, hi552_1, hl552_2, hi552_2⟩ := at_T49 (Kd.S_reads' HO_3.1).2.2 x18_3 p552 q552
            obtain rfl : ad539 = ad552 := (by injection e552)
            obtain ⟨ce552, hce552, hMe552, hcc552⟩ := Kd.S_get HO_3.1 z49 x18_3 p552 (by first | exact q552 | exact zA | (have e_ := (Kd.S_reads' HO_3.1).1; omega))
            obtain ⟨ve552_1, ve552_2, rfl, ge552_1, ge552_2⟩ := k49_openM hMe552
            have hv552_1 := hcc552 1 _ rfl
            rw [add_field _ _ 1 (by omega)] at hv552_1
            replace hv552_1 := Option.some.inj (hv552_1.symm.trans hx552_1)
            rw [hv552_1] at ge552_1
            have HL552_1 := zM (show Kd.R k57 57 _ _ _ _ ((rd_T49 t495 x18_3).f1) from ge552_1)
            clear hv552_1 ge552_1
            have hv552_2 := hcc552 2 _ rfl
            rw [add_field _ _ 2 (by omega)] at hv552_2
            replace hv552_2 := Option.some.inj (hv552_2.symm.trans hx552_2)
            rw [hv552_2] at ge552_2
            have HL552_2 := zM (show Kd.R k61 61 _ _ _ _ ((rd_T49 t495 x18_3).f2) from ge552_2)
            clear hv552_2 ge552_2 hcc552 hce552
            have HR552_1 := zM hi552_1
            have HC552_1 := zM hl552_1
            clear hi552_1 hl552_1
            have HR552_2 := zM hi552_2
            have HC552_2 := zM hl552_2
            clear hi552_2 hl552_2
            replace p552 := eq_true p552
            replace q552 := eq_true q552
            have hnb114 := NB548_524.1
            have hnc114 := NB524_548.1
            have hnb115 := NB548_551.1
            have hnc115 := NB551_548.1
            have hcz116 := zc_5 (w := wr) BK548.1
            have hnb117 := NB551_524.1
            have hnc117 := NB524_551.1
            have hcz118 := zc_5 (w := wr) BK551.1
            go_wp2
            go_roundg k5
            case measure => have := HJ11.1; have := HJ68.1; have := HK3.1; have := HK4.1; have := HK5.1; omega
            case rel => exact ⟨(wrap64 (x19_4 + 1)), zJJ, H', ⟨by have := HJ11.1; have := HJ68.1; have := HK3.1; have := HK4.1; have := HK5.1; omega⟩, ⟨by refine zrS ?_; exact Kd.S_mono HO_3.1 (fun _ hk => ⟨hk.1, ⟨hk.2.1, hk.2.2.1⟩⟩)⟩, ⟨zR HO_4.1⟩, ⟨zR HO_16.1⟩, ⟨by refine zrR ?_; exact Kd.R_mono HO_525001.1 (fun _ hk => trivial)⟩, ⟨zR HO_525002.1⟩, ⟨zK BK524.1⟩, ⟨zB0⟩⟩
           rw [if_pos c97] at H
           have c97b0 := decide_eq_true c97
           clear c97
           replace H := zIt H
           obtain ⟨c98b0, H⟩ := H
           by_cases c99 : ((rd_T61 ((rd_T49 t495 x18_3).f2) x23_5).f0) = x19_4
           rotate_left
           ·rw [if_neg c99] at H
            have c99b0 : (((rd_T61 ((rd_T49 t495 x18_3).f2) x23_5).f0) == x19_4) = false := beq_eq_false_iff_ne.mpr c99
            have c99b1 : (((rd_T61 ((rd_T49 t495 x18_3).f2) x23_5).f0) != x19_4) = true := bne_iff_ne.mpr c99
            have H' := zM H
            clear H
            have p552 : 0 ≤ (x18_3 : Int) := zA
            have q552 : x18_3 < (t495.length : Int) := zA
            obtain ⟨ad552, A552_1, c552_1, A552_2, c552_2, e552, hx552_0, hx552_1, hx552_2, hl552_1, hi552_1, hl552_2, hi552_2⟩ := at_T49 (Kd.S_reads' HO_3.1).2.2 x18_3 p552 q552
            obtain rfl : ad539 = ad552 := (by injection e552)
            obtain ⟨ce552, hce552, hMe552, hcc552⟩ := Kd.S_get HO_3.1 z49 x18_3 p552 (by first | exact q552 | exact zA | (have e_ := (Kd.S_reads' HO_3.1).1; omega))
            obtain ⟨ve552_1, ve552_2, rfl, ge552_1, ge552_2⟩ := k49_openM hMe552
            have hv552_1 := hcc552 1 _ rfl
            rw [add_field _ _ 1 (by omega)] at hv552_1
            replace hv552_1 := Option.some.inj (hv552_1.symm.trans hx552_1)
            rw [hv552_1] at ge552_1
            have HL552_1 := zM (show Kd.R k57 57 _ _ _ _ ((rd_T49 t495 x18_3).f1) from ge552_1)
            clear hv552_1 ge552_1
            have hv552_2 := hcc552 2 _ rfl
            rw [add_field _ _ 2 (by omega)] at hv552_2
            replace hv552_2 := Option.some.inj (hv552_2.symm.trans hx552_2)
            rw [hv552_2] at ge552_2
            have HL552_2 := zM (show Kd.R k61 61 _ _ _ _ ((rd_T49 t495 x18_3).f2) from ge552_2)
            clear hv552_2 ge552_2 hcc552 hce552
            have HR552_1 := zM hi552_1
            have HC552_1 := zM hl552_1
            clear hi552_1 hl552_1
            have HR552_2 := zM hi552_2
            have HC552_2 := zM hl552_2
            clear hi552_2 hl552_2
            replace p552 := eq_true p552
            replace q552 := eq_true q552
            have p553 : 0 ≤ (x18_3 : Int) := zA
            have q553 : x18_3 < (t495.length : Int) := zA
            obtain ⟨ad553, A553_1, c553_1, A553_2, c553_2, e553, hx553_0, hx553_1, hx553_2, hl553_1, hi553_1, hl553_2, hi553_2⟩ := at_T49 (Kd.S_reads' HO_3.1).2.2 x18_3 p553 q553
            obtain rfl : ad539 = ad553 := (by injection e553)
            obtain ⟨ce553, hce553, hMe553, hcc553⟩ := Kd.S_get HO_3.1 z49 x18_3 p553 (by first | exact q553 | exact zA | (have e_ := (Kd.S_reads' HO_3.1).1; omega))
            obtain ⟨ve553_1, ve553_2, rfl, ge553_1, ge553_2⟩ := k49_openM hMe553
            have hv553_1 := hcc553 1 _ rfl
            rw [add_field _ _ 1 (by omega)] at hv553_1
            replace hv553_1 := Option.some.inj (hv553_1.symm.trans hx553_1)
            rw [hv553_1] at ge553_1
            have HL553_1 := zM (show Kd.R k57 57 _ _ _ _ ((rd_T49 t495 x18_3).f1) from ge553_1)
            clear hv553_1 ge553_1
            have hv553_2 := hcc553 2 _ rfl
            rw [add_field _ _ 2 (by omega)] at hv553_2
            replace hv553_2 := Option.some.inj (hv553_2.symm.trans hx553_2)
            rw [hv553_2] at ge553_2
            have HL553_2 := zM (show Kd.R k61 61 _ _ _ _ ((rd_T49 t495 x18_3).f2) from ge553_2)
            clear hv553_2 ge553_2 hcc553 hce553
            have HR553_1 := zM hi553_1
            have HC553_1 := zM hl553_1
            clear hi553_1 hl553_1
            have HR553_2 := zM hi553_2
            have HC553_2 := zM hl553_2
            clear hi553_2 hl553_2
            replace p553 := eq_true p553
            replace q553 := eq_true q553
            have ea_ := Option.some.inj (hx552_1.symm.trans hx553_1)
            injection ea_ with ea_ en_ ec_
            subst ea_
            subst ec_
            clear en_
            have ea_ := Option.some.inj (hx552_2.symm.trans hx553_2)
            injection ea_ with ea_ en_ ec_
            subst ea_
            subst ec_
            clear en_
            obtain ⟨p554, q554, ad554, e554, hx554_0, hx554_1⟩ := zRd (at_T61 (zC HR553_2.1) x23_5)
            cases e554
            go_wp2
            go_roundg k5
            case measure => have := HJ11.1; have := HJ68.1; have := HK3.1; have := HK4.1; have := HK5.1; omega
            case rel => exact ⟨(wrap64 (x23_5 + 1)), (x552004_5), zJJ, H', ⟨by have := HJ11.1; have := HJ68.1; have := HK3.1; have := HK4.1; have := HK5.1; omega⟩, ⟨zS HO_3.1⟩, ⟨zR HO_4.1⟩, ⟨zR HO_16.1⟩, ⟨zR HO_525001.1⟩, ⟨zR HO_525002.1⟩, ⟨zK BK524.1⟩, ⟨zK BK548.1⟩, ⟨zK BK551.1⟩, ⟨zB0⟩⟩
           rw [if_pos c99] at H
           have c99b0 : (((rd_T61 ((rd_T49 t495 x18_3).f2) x23_5).f0) == x19_4) = true := beq_iff_eq.mpr c99
           have c99b1 : (((rd_T61 ((rd_T49 t495 x18_3).f2) x23_5).f0) != x19_4) = false := bne_eq_false_iff_eq.mpr c99
           clear c99
           replace H := zO H
           obtain ⟨t557, A100, H⟩ := H
           replace H := zIt H
           obtain ⟨c101b0, H⟩ := H
           replace H := zIt H
           obtain ⟨c102b0, H⟩ := H
           have H' := zM H
           clear H
           have p552 : 0 ≤ (x18_3 : Int) := zA
           have q552 : x18_3 < (t495.length : Int) := zA
           obtain ⟨ad552, A552_1, c552_1, A552_2, c552_2, e552, hx552_0, hx552_1, hx552_2, hl552_1, hi552_1, hl552_2, hi552_2⟩ := at_T49 (Kd.S_reads' HO_3.1).2.2 x18_3 p552 q552
           obtain rfl : ad539 = ad552 := (by injection e552)
           obtain ⟨ce552, hce552, hMe552, hcc552⟩ := Kd.S_get HO_3.1 z49 x18_3 p552 (by first | exact q552 | exact zA | (have e_ := (Kd.S_reads' HO_3.1).1; omega))
           obtain ⟨ve552_1, ve552_2, rfl, ge552_1, ge552_2⟩ := k49_openM hMe552
           have hv552_1 := hcc552 1 _ rfl
           rw [add_field _ _ 1 (by omega)] at hv552_1
           replace hv552_1 := Option.some.inj (hv552_1.symm.trans hx552_1)
           rw [hv552_1] at ge552_1
           have HL552_1 := zM (show Kd.R k57 57 _ _ _ _ ((rd_T49 t495 x18_3).f1) from ge552_1)
           clear hv552_1 ge552_1
           have hv552_2 := hcc552 2 _ rfl
           rw [add_field _ _ 2 (by omega)] at hv552_2
           replace hv552_2 := Option.some.inj (hv552_2.symm.trans hx552_2)
           rw [hv552_2] at ge552_2
           have HL552_2 := zM (show Kd.R k61 61 _ _ _ _ ((rd_T49 t495 x18_3).f2) from ge552_2)
           clear hv552_2 ge552_2 hcc552 hce552
           have HR552_1 := zM hi552_1
           have HC552_1 := zM hl552_1
           clear hi552_1 hl552_1
           have HR552_2 := zM hi552_2
           have HC552_2 := zM hl552_2
           clear hi552_2 hl552_2
           replace p552 := eq_true p552
           replace q552 := eq_true q552
           have p553 : 0 ≤ (x18_3 : Int) := zA
           have q553 : x18_3 < (t495.length : Int) := zA
           obtain ⟨ad553, A553_1, c553_1, A553_2, c553_2, e553, hx553_0, hx553_1, hx553_2, hl553_1, hi553_1, hl553_2, hi553_2⟩ := at_T49 (Kd.S_reads' HO_3.1).2.2 x18_3 p553 q553
           obtain rfl : ad539 = ad553 := (by injection e553)
           obtain ⟨ce553, hce553, hMe553, hcc553⟩ := Kd.S_get HO_3.1 z49 x18_3 p553 (by first | exact q553 | exact zA | (have e_ := (Kd.S_reads' HO_3.1).1; omega))
           obtain ⟨ve553_1, ve553_2, rfl, ge553_1, ge553_2⟩ := k49_openM hMe553
           have hv553_1 := hcc553 1 _ rfl
           rw [add_field _ _ 1 (by omega)] at hv553_1
           replace hv553_1 := Option.some.inj (hv553_1.symm.trans hx553_1)
           rw [hv553_1] at ge553_1
           have HL553_1 := zM (show Kd.R k57 57 _ _ _ _ ((rd_T49 t495 x18_3).f1) from ge553_1)
           clear hv553_1 ge553_1
           have hv553_2 := hcc553 2 _ rfl
           rw [add_field _ _ 2 (by omega)] at hv553_2
           replace hv553_2 := Option.some.inj (hv553_2.symm.trans hx553_2)
           rw [hv553_2] at ge553_2
           have HL553_2 := zM (show Kd.R k61 61 _ _ _ _ ((rd_T49 t495 x18_3).f2) from ge553_2)
           clear hv553_2 ge553_2 hcc553 hce553
           have HR553_1 := zM hi553_1
           have HC553_1 := zM hl553_1
           clear hi553_1 hl553_1
           have HR553_2 := zM hi553_2
           have HC553_2 := zM hl553_2
           clear hi553_2 hl553_2
           replace p553 := eq_true p553
           replace q553 := eq_true q553
           have ea_ := Option.some.inj (hx552_1.symm.trans hx553_1)
           injection ea_ with ea_ en_ ec_
           subst ea_
           subst ec_
           clear en_
           have ea_ := Option.some.inj (hx552_2.symm.trans hx553_2)
           injection ea_ with ea_ en_ ec_
           subst ea_
           subst ec_
           clear en_
           obtain ⟨p554, q554, ad554, e554, hx554_0, hx554_1⟩ := zRd (at_T61 (zC HR553_2.1) x23_5)
           cases e554
           have p555 : 0 ≤ (x18_3 : Int) := zA
           have q555 : x18_3 < (t495.length : Int) := zA
           obtain ⟨ad555, A555_1, c555_1, A555_2, c555_2, e555, hx555_0, hx555_1, hx555_2, hl555_1, hi555_1, hl555_2, hi555_2⟩ := at_T49 (Kd.S_reads' HO_3.1).2.2 x18_3 p555 q555
           obtain rfl : ad539 = ad555 := (by injection e555)
           obtain ⟨ce555, hce555, hMe555, hcc555⟩ := Kd.S_get HO_3.1 z49 x18_3 p555 (by first | exact q555 | exact zA | (have e_ := (Kd.S_reads' HO_3.1).1; omega))
           obtain ⟨ve555_1, ve555_2, rfl, ge555_1, ge555_2⟩ := k49_openM hMe555
           have hv555_1 := hcc555 1 _ rfl
           rw [add_field _ _ 1 (by omega)] at hv555_1
           replace hv555_1 := Option.some.inj (hv555_1.symm.trans hx555_1)
           rw [hv555_1] at ge555_1
           have HL555_1 := zM (show Kd.R k57 57 _ _ _ _ ((rd_T49 t495 x18_3).f1) from ge555_1)
           clear hv555_1 ge555_1
           have hv555_2 := hcc555 2 _ rfl
           rw [add_field _ _ 2 (by omega)] at hv555_2
           replace hv555_2 := Option.some.inj (hv555_2.symm.trans hx555_2)
           rw [hv555_2] at ge555_2
           have HL555_2 := zM (show Kd.R k61 61 _ _ _ _ ((rd_T49 t495 x18_3).f2) from ge555_2)
           clear hv555_2 ge555_2 hcc555 hce555
           have HR555_1 := zM hi555_1
           have HC555_1 := zM hl555_1
           clear hi555_1 hl555_1
           have HR555_2 := zM hi555_2
           have HC555_2 := zM hl555_2
           clear hi555_2 hl555_2
           replace p555 := eq_true p555
           replace q555 := eq_true q555
           have ea_ := Option.some.inj (hx552_1.symm.trans hx555_1)
           injection ea_ with ea_ en_ ec_
           subst ea_
           subst ec_
           clear en_
           have ea_ := Option.some.inj (hx552_2.symm.trans hx555_2)
           injection ea_ with ea_ en_ ec_
           subst ea_
           subst ec_
           clear en_
           obtain ⟨p556, q556, ad556, e556, hx556_0, hx556_1⟩ := zRd (at_T61 (zC HR555_2.1) x23_5)
           cases e556
           go_wp2_with (first | ((with_reducible refine zG Try.func28 179 #[.slice (some ad539) t495.length co14, .string ((rd_T61 ((rd_T49 t495 x18_3).f2) x23_5).f1)] ?_); (with_reducible refine (impl_PartAt.calls _ _ t495 ((rd_T61 ((rd_T49 t495 x18_3).f2) x23_5).f1) t557 _ ?side1 ?side2 A100.1).mono ?_); (case side1 => exact zC (Kd.S_reads' HO_3.1).2.2); (case side2 => exact (Kd.S_reads' HO_3.1).2.1); rintro e w103 ⟨rfl, hb⟩; refine ⟨_, rfl, ?_⟩; replace HO_3 := zM (Kd.S_below (zS HO_3.1) hb); replace HO_4 := zM (Kd.R_below (zR HO_4.1) hb); replace HO_16 := zM (Kd.R_below (zR HO_16.1) hb); replace HO_525001 := zM (Kd.R_below (zR HO_525001.1) hb); replace HO_525002 := zM (Kd.R_below (zR HO_525002.1) hb); replace HL552_1 := zM (Kd.R_below (zR HL552_1.1) hb); replace HL552_2 := zM (Kd.R_below (zR HL552_2.1) hb); replace HL553_1 := zM (Kd.R_below (zR HL553_1.1) hb); replace HL553_2 := zM (Kd.R_below (zR HL553_2.1) hb); replace HL555_1 := zM (Kd.R_below (zR HL555_1.1) hb); replace HL555_2 := zM (Kd.R_below (zR HL555_2.1) hb); replace BK524 := zM (zb BK524.1 hb); replace BK548 := zM (zb BK548.1 hb); replace BK551 := zM (blk_below (g := gb551) (o := .cells #[.int .i64 ((rd_T57 ((rd_T49 t495 x18_3).f1) x19_4).f0), .int .i64 ((rd_T57 ((rd_T49 t495 x18_3).f1) x19_4).f1), .int .i64 ((rd_T57 ((rd_T49 t495 x18_3).f1) x19_4).f2), .int .i64 ((rd_T57 ((rd_T49 t495 x18_3).f1) x19_4).f3), .int .i64 x552004_5] 57 (0, 0)) (zK BK551.1) hb); replace HR552_1 := zM (Kd.C_below (zC HR552_1.1) hb); replace HR552_2 := zM (Kd.C_below (zC HR552_2.1) hb); replace HR553_1 := zM (Kd.C_below (zC HR553_1.1) hb); replace HR553_2 := zM (Kd.C_below (zC HR553_2.1) hb); replace HR555_1 := zM (Kd.C_below (zC HR555_1.1) hb); replace HR555_2 := zM (Kd.C_below (zC HR555_2.1) hb); replace HB := zM (below_step zB0 hb); clear hb; have p558 : 0 ≤ (t557 : Int) := zA; have q558 : t557 < (t535.length : Int) := zA; obtain ⟨ad558, e558, hx558_0⟩ := Kd.at_int (Kd.R_reads' HO_16.1).2.2 t557 p558 q558; obtain rfl : ad540 = ad558 := (by injection e558); replace p558 := eq_true p558; replace q558 := eq_true q558; have hnb104 := NB551_524.1; have hnc104 := NB524_551.1; have hnb105 := NB551_548.1; have hnc105 := NB548_551.1; have hcz106 := zc_5 (w := w103) BK551.1))
           go_roundg k5
           case measure => have := HJ11.1; have := HJ68.1; have := HK3.1; have := HK4.1; have := HK5.1; omega
           case rel => exact ⟨(wrap64 (x23_5 + 1)), (rd t535 t557), zJJ, H', ⟨by have := HJ11.1; have := HJ68.1; have := HK3.1; have := HK4.1; have := HK5.1; omega⟩, ⟨by refine zrS ?_; exact Kd.S_mono (zfS (Kd.S_mono HO_3.1 (fun k_ hk => (⟨hk, hk.2.2.2.2⟩ : _ ∧ k_ ≠ gb551)))) (fun _ hk => ⟨hk.1.1, ⟨hk.1.2.1, ⟨hk.1.2.2.1, ⟨hk.1.2.2.2.1, hk.1.2.2.2.2⟩⟩⟩⟩)⟩, ⟨by refine zrR ?_; exact Kd.R_mono (zfR (Kd.R_types HO_4.1 BK551.1 (by decide))) (fun _ hk => hk.1)⟩, ⟨by refine zrR ?_; exact Kd.R_mono (zfR (Kd.R_types HO_16.1 BK551.1 (by decide))) (fun _ hk => hk.1)⟩, ⟨by refine zrR ?_; exact Kd.R_mono (zfR (Kd.R_mono HO_525001.1 (fun k_ hk => (⟨hk, hk.2⟩ : _ ∧ k_ ≠ gb551)))) (fun _ hk => ⟨hk.1.1, hk.1.2⟩)⟩, ⟨by refine zrR ?_; exact Kd.R_mono (zfR (Kd.R_types HO_525002.1 BK551.1 (by decide))) (fun _ hk => trivial)⟩, ⟨by refine zP ?_; refine blk_far ?_ NB524_551.1 _; refine zP ?_; exact BK524.1⟩, ⟨by refine zP ?_; refine blk_far ?_ NB548_551.1 _; refine zP ?_; exact BK548.1⟩, ⟨by refine zP ?_; refine blk_put (cs := #[.int .i64 ((rd_T57 ((rd_T49 t495 x18_3).f1) x19_4).f0), .int .i64 ((rd_T57 ((rd_T49 t495 x18_3).f1) x19_4).f1), .int .i64 ((rd_T57 ((rd_T49 t495 x18_3).f1) x19_4).f2), .int .i64 ((rd_T57 ((rd_T49 t495 x18_3).f1) x19_4).f3), .int .i64 x552004_5]) ?_ 4 _ rfl; refine zP ?_; exact BK551.1⟩, ⟨zB0⟩⟩

/-- THE ONE PURE STATEMENT of laws_FnLinked: yours. -/
def laws_FnLinked.Pure : Prop := ∀ (l0 : List Int), l0.length ≤ maxLen → l0.length * 1 ≤ 140737488351232 → (∀ x ∈ l0, (Lit.int .u8 x).wf = true) → ∃ k, laws_FnLinked.f k l0 = some true
theorem laws_FnLinked.walk (P : laws_FnLinked.Pure) (a0 : Option Addr) (len0 cap0 : Nat) (z0 : List Int) (w : World) (w0 : (a0 = none ∧ len0 = 0 ∧ cap0 = 0 ∧ z0 = []) ∨ ∃ x, a0 = some x ∧ len0 ≤ cap0 ∧ cap0 ≤ maxLen ∧ z0.length = cap0 ∧ (∀ i, i < z0.length → w.cell? (x.add i) = some (.int .u8 (z0.getD i 0))) ∧ ∀ n ∈ z0, (Lit.int .u8 n).wf = true) (y0 : len0 * 1 ≤ 140737488351232) :
  Calls Try.prog 4 #[.slice a0 len0 cap0] w fun e w' => e = .returned (.bool true) ∧ Below w.heap.size w w' := by
 obtain ⟨l0, rfl, hr0, hm0, hw0, hc0⟩ := ReadsInt.ofRowC w0
 obtain ⟨k, h⟩ := P l0 hm0 y0 hw0
 refine (laws_FnLinked.calls k _ _ l0 true w (Kd.C_of_reads (d := (0 : Int)) (h1 := fun _ => rfl) hr0) hc0 h).mono ?_
 rintro e w' ⟨rfl, hd⟩
 exact ⟨rfl, hd⟩

end Go.Proofs.Ytaakcbgpmabaaaa.PFnLinked
