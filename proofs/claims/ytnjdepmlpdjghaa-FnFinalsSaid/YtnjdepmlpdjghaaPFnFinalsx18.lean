-- made by wip/tools/myprint.py out of the seat's translation
import Derived.Test.YtnjdepmlpdjghaaPFnFinalsx0
import Derived.Test.YtnjdepmlpdjghaaPFnFinalsx2
import Derived.Test.YtnjdepmlpdjghaaPFnFinalsx8
import Derived.Test.YtnjdepmlpdjghaaPFnFinalsx13
import Derived.Test.YtnjdepmlpdjghaaPFnFinalsx17
namespace Go.Proofs.Ytnjdepmlpdjghaa.PFnFinals
open Go.RowKit Go.Proofs.YtnjdepmlpdjghaaW.PrintWords Go.Proofs.YtnjdepmlpdjghaaW.PrintLast Go.Proofs.YtnjdepmlpdjghaaW.PrintMore
attribute [local go_sem] max2_int min2_int max_two min_two max_three min_three max_four min_four   -- for this text's walks alone
set_option linter.unusedVariables false
set_option linter.unusedSimpArgs false
set_option maxHeartbeats 8000000
set_option maxRecDepth 100000
abbrev zq18_0 : Array Bool := #[false, false, false, false, false, false, false, false, false, false, false, false, false, false, false, false, false, false, false, false, false, false, false, false, false, false, false, false, false, false, false, false, false, false, false, false, false, false, false, false, false]

/-! ### laws_FnFinals: function 9 -/
mutual
def laws_FnFinals.j0 : Nat → List Int → List (S29) → Int → Int → List Int → List Int → List (S29) → Int → Int → Int → Bool → Option (Bool)
 | 0, _, _, _, _, _, _, _, _, _, _, _ => none
 | k + 1, x3, x4, x5, x6, x7, x8, x9, x10, x11, x12, x86 => if x86 = true then (some false) else (laws_FnFinals.l0 k x3 x4 x5 x6 x7 x8 x9 x10 x11 x12 0)
def laws_FnFinals.l0 : Nat → List Int → List (S29) → Int → Int → List Int → List Int → List (S29) → Int → Int → Int → Int → Option (Bool)
 | 0, _, _, _, _, _, _, _, _, _, _, _ => none
 | k + 1, x3, x4, x5, x6, x7, x8, x9, x10, x11, x12, x18 => if x18 < (x7.length : Int) then (if x18 > 0 then (if 0 ≤ (wrap64 (x18 - 1)) then (if (wrap64 (x18 - 1)) < (x7.length : Int) then (if 0 ≤ x18 then (if (rd x7 (wrap64 (x18 - 1))) ≥ (rd x7 x18) then (some false) else ((impl_Ever.f k x3 x4 x5 x6 (rd x7 x18)).bind fun t776 => (if t776 = true then ((impl_Always.f k x3 x4 x5 x6 (rd x7 x18)).bind fun t778 => (if (t778 != ((x7.length : Int) == 1)) = true then (some false) else (laws_FnFinals.l0 k x3 x4 x5 x6 x7 x8 x9 x10 x11 x12 (wrap64 (x18 + 1))))) else (some false)))) else (none)) else (none)) else (none)) else (if 0 ≤ x18 then ((impl_Ever.f k x3 x4 x5 x6 (rd x7 x18)).bind fun t780 => (if t780 = true then ((impl_Always.f k x3 x4 x5 x6 (rd x7 x18)).bind fun t782 => (if (t782 != ((x7.length : Int) == 1)) = true then (some false) else (laws_FnFinals.l0 k x3 x4 x5 x6 x7 x8 x9 x10 x11 x12 (wrap64 (x18 + 1))))) else (some false))) else (none))) else ((impl_Always.f k x8 x9 x10 x11 x12).bind fun t771 => (if t771 = true then ((impl_Ever.f k x8 x9 x10 x11 x12).bind fun t772 => (some t772)) else (some true)))
end
def laws_FnFinals.f (k : Nat) (l0 : List Int) : Option (Bool) := (laws_big.f l0).bind fun t733 => (if t733 = true then (some true) else ((spec_DrawFinals.f k l0).bind fun bt734 => ((impl_Finals.f k bt734.1 bt734.2.1 bt734.2.2.1 bt734.2.2.2).bind fun t742 => ((spec_DrawAlways.f k l0).bind fun bt745 => ((spec_DrawEver.f k l0).bind fun bt754 => ((spec_Finals.f k bt734.1 bt734.2.1 bt734.2.2.1 bt734.2.2.2).bind fun t763 => ((laws_sameInts.f k t742 t763).bind fun t766 => (if t766 = true then ((impl_Always.f k bt745.1 bt745.2.1 bt745.2.2.1 bt745.2.2.2.1 bt745.2.2.2.2).bind fun t767 => ((spec_Always.f k bt745.1 bt745.2.1 bt745.2.2.1 bt745.2.2.2.1 bt745.2.2.2.2).bind fun t768 => (if (t767 != t768) = true then (laws_FnFinals.j0 k bt734.1 bt734.2.1 bt734.2.2.1 bt734.2.2.2 t742 bt745.1 bt745.2.1 bt745.2.2.1 bt745.2.2.2.1 bt745.2.2.2.2 true) else ((impl_Ever.f k bt754.1 bt754.2.1 bt754.2.2.1 bt754.2.2.2.1 bt754.2.2.2.2).bind fun t769 => ((spec_Ever.f k bt754.1 bt754.2.1 bt754.2.2.1 bt754.2.2.2.1 bt754.2.2.2.2).bind fun t770 => (laws_FnFinals.j0 k bt734.1 bt734.2.1 bt734.2.2.1 bt734.2.2.2 t742 bt745.1 bt745.2.1 bt745.2.2.1 bt745.2.2.2.1 bt745.2.2.2.2 (t769 != t770))))))) else (laws_FnFinals.j0 k bt734.1 bt734.2.1 bt734.2.2.1 bt734.2.2.2 t742 bt745.1 bt745.2.1 bt745.2.2.1 bt745.2.2.2.1 bt745.2.2.2.2 true)))))))))
theorem laws_FnFinals.mono_l : ∀ k, (∀ y0 y1 y2 y3 y4 y5 y6 y7 y8 y9 y10, LeO (laws_FnFinals.j0 k y0 y1 y2 y3 y4 y5 y6 y7 y8 y9 y10) (laws_FnFinals.j0 (k + 1) y0 y1 y2 y3 y4 y5 y6 y7 y8 y9 y10)) ∧ (∀ y0 y1 y2 y3 y4 y5 y6 y7 y8 y9 y10, LeO (laws_FnFinals.l0 k y0 y1 y2 y3 y4 y5 y6 y7 y8 y9 y10) (laws_FnFinals.l0 (k + 1) y0 y1 y2 y3 y4 y5 y6 y7 y8 y9 y10))
 | 0 => ⟨fun _ _ _ _ _ _ _ _ _ _ _ r h => by simp [laws_FnFinals.j0] at h, fun _ _ _ _ _ _ _ _ _ _ _ r h => by simp [laws_FnFinals.l0] at h⟩
 | k + 1 => by
  obtain ⟨ih0, ih1⟩ := laws_FnFinals.mono_l k
  refine ⟨?_, ?_⟩
  ·intros
   unfold laws_FnFinals.j0
   have mo0 := @impl_Always.mono
   have mo1 := @impl_Ever.mono
   have mo2 := @impl_Finals.mono
   have mo3 := @laws_sameInts.mono
   have mo4 := @spec_Always.mono
   have mo5 := @spec_DrawAlways.mono
   have mo6 := @spec_DrawEver.mono
   have mo7 := @spec_DrawFinals.mono
   have mo8 := @spec_Ever.mono
   have mo9 := @spec_Finals.mono
   exact zL
  ·intros
   unfold laws_FnFinals.l0
   have mo0 := @impl_Always.mono
   have mo1 := @impl_Ever.mono
   have mo2 := @impl_Finals.mono
   have mo3 := @laws_sameInts.mono
   have mo4 := @spec_Always.mono
   have mo5 := @spec_DrawAlways.mono
   have mo6 := @spec_DrawEver.mono
   have mo7 := @spec_DrawFinals.mono
   have mo8 := @spec_Ever.mono
   have mo9 := @spec_Finals.mono
   exact zL
theorem laws_FnFinals.mono : ∀ a0 k, LeO (laws_FnFinals.f k a0) (laws_FnFinals.f (k + 1) a0) := by
 intro a0 k
 obtain ⟨ih0, ih1⟩ := laws_FnFinals.mono_l k
 unfold laws_FnFinals.f
 have mo0 := @impl_Always.mono
 have mo1 := @impl_Ever.mono
 have mo2 := @impl_Finals.mono
 have mo3 := @laws_sameInts.mono
 have mo4 := @spec_Always.mono
 have mo5 := @spec_DrawAlways.mono
 have mo6 := @spec_DrawEver.mono
 have mo7 := @spec_DrawFinals.mono
 have mo8 := @spec_Ever.mono
 have mo9 := @spec_Finals.mono
 exact zL
def laws_FnFinals.T12 : Bool × List (List Nat × List Nat) := (true, [([], []), ([0], [0]), ([1], [1]), ([2], [2]), ([2], [2]), ([4, 2], [2, 4]), ([3, 5, 2], [2, 3, 5]), ([6, 2], [2, 6]), ([2], [2]), ([2], [2]), ([8, 9, 2], [2, 8, 9]), ([10, 2], [2, 10]), ([7, 11, 2], [2, 7, 11]), ([2, 12], [2, 12]), ([13, 2], [13]), ([14], [14]), ([14], [14]), ([14], [14]), ([14], [14]), ([14], [14]), ([14], [14]), ([19, 20, 14], [14, 19, 20]), ([21, 14], [14, 21]), ([15, 16, 17, 18, 22, 14, 14], [14, 15, 16, 17, 18, 22]), ([23, 14], [14, 23]), ([14, 24], [14, 24]), ([25, 23], [25]), ([26], [26]), ([26], [26]), ([26], [26]), ([26], [26]), ([26], [26]), ([26], [26]), ([31, 32, 26], [26, 31, 32]), ([33, 26], [26, 33]), ([27, 28, 29, 30, 34, 26, 26], [26, 27, 28, 29, 30, 34]), ([26], [26]), ([36, 26], [26, 36]), ([37, 26], [26, 37]), ([35, 38, 26], [26, 35, 38]), ([26, 39], [26, 39])])
def laws_FnFinals.B12 : List Nat := [0, 1, 3, 7, 7, 23, 63, 127, 7, 7, 775, 1799, 4095, 8191, 16383, 32767, 32767, 32767, 32767, 32767, 32767, 1605631, 3702783, 8388607, 16777215, 33554431, 67108863, 134217727, 134217727, 134217727, 134217727, 134217727, 134217727, 6576668671, 15166603263, 34359738367, 134217727, 68853694463, 206292647935, 549755813887, 1099511627775]
theorem laws_FnFinals.tab12 : rtab .any (opsOf Try.f9 12) = laws_FnFinals.T12 := by kernel_rfl
theorem laws_FnFinals.bits12 : waitsOk laws_FnFinals.T12.2 laws_FnFinals.B12 = true := by kernel_rfl
theorem laws_FnFinals.calls (k : Nat) (A0 : Option Addr) (c0 : Nat) (l0 : List Int) (r : Bool) (w : World) (hr0 : Kd.C (Kd.int .u8) w A0 l0.length l0) (hc0 : l0.length ≤ c0) (h : laws_FnFinals.f k l0 = some r) :
  Calls Try.prog 9 #[.slice A0 l0.length c0] w fun e w' => e = .returned (.bool r) ∧ Below w.heap.size w w' := by
 have HR0 := zM hr0
 have HC0 := zM hc0
 clear hr0 hc0
 have HB := zM (Below.refl w.heap.size w)
 unfold laws_FnFinals.f at h
 have H := h
 clear h
 replace H := zO H
 obtain ⟨t733, A2, H⟩ := H
 by_cases c3 : t733 = true
 ·subst c3
  rw [if_pos rfl] at H
  obtain rfl := Option.some.inj H
  go_enter Try.func9, Try.ntmps9
  go_wp2_with (first | ((with_reducible refine zG Try.func10 20 #[.slice A0 l0.length c0] ?_); (with_reducible refine (laws_big.calls _ _ l0 true _ ?side1 ?side2 A2.1).mono ?_); (case side1 => exact zC HR0.1); (case side2 => exact HC0.1); rintro e w' ⟨rfl, ⟨nd, rfl⟩⟩; refine ⟨_, rfl, ?_⟩))
  go_ret
  exact ⟨zE, zB0⟩
 replace c3 := Bool.eq_false_iff.mpr c3
 subst c3
 rw [if_neg zF] at H
 replace H := zO H
 obtain ⟨⟨t734, t737, t740, t741⟩, A4, H⟩ := H
 try dsimp only at H
 replace H := zO H
 obtain ⟨t742, A5, H⟩ := H
 replace H := zO H
 obtain ⟨⟨t745, t748, t751, t752, t753⟩, A6, H⟩ := H
 try dsimp only at H
 replace H := zO H
 obtain ⟨⟨t754, t757, t760, t761, t762⟩, A7, H⟩ := H
 try dsimp only at H
 have HC8 := zM H
 clear H
 go_enter Try.func9, Try.ntmps9
 go_upto_region 7 with (first | ((with_reducible refine zG Try.func10 20 #[.slice A0 l0.length c0] ?_); (with_reducible refine (laws_big.calls _ _ l0 false _ ?side1 ?side2 A2.1).mono ?_); (case side1 => exact zC HR0.1); (case side2 => exact HC0.1); rintro e w' ⟨rfl, ⟨nd, rfl⟩⟩; refine ⟨_, rfl, ?_⟩) | ((with_reducible refine zG Try.func37 23 #[.slice A0 l0.length c0] ?_); (with_reducible refine (spec_DrawFinals.calls k _ _ l0 t734 t737 t740 t741 _ ?side1 ?side2 A4.1).mono ?_); (case side1 => exact zC HR0.1); (case side2 => exact HC0.1); rintro e w9 ⟨v735, v738, rfl, ho0, ho1, hb⟩; refine ⟨_, rfl, ?_⟩; have HO736 := zM (Kd.R_lower (Kd.R_mono (ok' := fun k_ => True) ho0 (fun _ hk_ => trivial)) (below_size zB0)); have HO739 := zM (Kd.N_lower (Kd.N_mono (ok' := fun k_ => some k_ ≠ (v735 : Value).ownBlock) ho1 (fun k_ hk_ => hk_.2)) (below_size zB0)); replace HB := zM (below_step zB0 hb); clear hb ho0 ho1; obtain ⟨Ao10, co10, eo10⟩ := Kd.R_slice HO736.1; subst eo10; obtain ⟨Ao11, co11, eo11⟩ := Kd.N_slice HO739.1; subst eo11) | ((with_reducible refine zG Try.func17 32 #[.slice Ao10 t734.length co10, .slice Ao11 t737.length co11, .int .i64 t740, .int .i64 t741] ?_); (with_reducible refine (impl_Finals.calls k _ _ t734 _ _ t737 t740 t741 t742 _ ?side1 ?side2 ?side3 ?side4 A5.1).mono ?_); (case side1 => exact zC (Kd.R_reads' HO736.1).2.2); (case side2 => exact (Kd.R_reads' HO736.1).2.1); (case side3 => exact zC (Kd.N_reads' HO739.1).2.2); (case side4 => exact (Kd.N_reads' HO739.1).2.1); rintro e w12 ⟨v743, rfl, ho0, hb⟩; refine ⟨_, rfl, ?_⟩; replace HO739 := zM (Kd.N_elder' (by refine zrN ?_; exact HO739.1) (Kd.R_base ho0) hb); have HO744 := zM (Kd.R_lower (Kd.R_new' ho0 (Kd.R_lt (zR HO736.1))) (below_size zB0)); replace HO736 := zM (Kd.R_elder' (zR HO736.1) (Kd.R_base ho0) hb); replace HB := zM (below_step zB0 hb); clear hb ho0) | ((with_reducible refine zG Try.func38 35 #[.slice A0 l0.length c0] ?_); (with_reducible refine (spec_DrawAlways.calls k _ _ l0 t745 t748 t751 t752 t753 _ ?side1 ?side2 A6.1).mono ?_); (case side1 => exact zC (Kd.C_below HR0.1 HB.1)); (case side2 => exact HC0.1); rintro e w13 ⟨v746, v749, rfl, ho0, ho1, hb⟩; refine ⟨_, rfl, ?_⟩; have HO747 := zM (Kd.R_lower (Kd.R_new' (Kd.R_new' (Kd.R_mono (ok' := fun k_ => True) ho0 (fun _ hk_ => trivial)) (Kd.R_lt (zR HO736.1))) (Kd.R_lt (zR HO744.1))) (below_size zB0)); have HO750 := zM (Kd.N_lower (Kd.N_mono (ok' := fun k_ => some k_ ≠ (v746 : Value).ownBlock ∧ some k_ ≠ (.slice Ao10 t734.length co10 : Value).ownBlock ∧ some k_ ≠ (.slice Ao11 t737.length co11 : Value).ownBlock ∧ some k_ ≠ (v743 : Value).ownBlock) ho1 (fun k_ hk_ => ⟨hk_.2, (Kd.fresh' (Kd.R_lt (zR HO736.1)) k_ hk_.1), (Kd.fresh' (Kd.N_lt (by refine zrN ?_; exact HO739.1)) k_ hk_.1), (Kd.fresh' (Kd.R_lt (zR HO744.1)) k_ hk_.1)⟩)) (below_size zB0)); replace HO736 := zM (Kd.R_elder' (zR HO736.1) (Kd.R_base ho0) hb); replace HO739 := zM (Kd.N_mono (Kd.N_told (Kd.N_told (Kd.N_old (by refine zrN ?_; exact HO739.1) hb) (Kd.R_base ho0)) (Kd.N_base ho1)) (fun _ h_ => h_.1)); replace HO744 := zM (Kd.R_elder' (zR HO744.1) (Kd.R_base ho0) hb); replace HB := zM (below_step zB0 hb); clear hb ho0 ho1) | ((with_reducible refine zG Try.func39 43 #[.slice A0 l0.length c0] ?_); (with_reducible refine (spec_DrawEver.calls k _ _ l0 t754 t757 t760 t761 t762 _ ?side1 ?side2 A7.1).mono ?_); (case side1 => exact zC (Kd.C_below HR0.1 HB.1)); (case side2 => exact HC0.1); rintro e w14 ⟨v755, v758, rfl, ho0, ho1, hb⟩; refine ⟨_, rfl, ?_⟩; have HO756 := zM (Kd.R_lower (Kd.R_new' (Kd.R_new' (Kd.R_new' (Kd.R_mono (ok' := fun k_ => True) ho0 (fun _ hk_ => trivial)) (Kd.R_lt (zR HO736.1))) (Kd.R_lt (zR HO744.1))) (Kd.R_lt (zR HO747.1))) (below_size zB0)); have HO759 := zM (Kd.N_lower (Kd.N_mono (ok' := fun k_ => some k_ ≠ (v755 : Value).ownBlock ∧ some k_ ≠ (.slice Ao10 t734.length co10 : Value).ownBlock ∧ some k_ ≠ (.slice Ao11 t737.length co11 : Value).ownBlock ∧ some k_ ≠ (v743 : Value).ownBlock ∧ some k_ ≠ (v746 : Value).ownBlock ∧ some k_ ≠ (v749 : Value).ownBlock) ho1 (fun k_ hk_ => ⟨hk_.2, (Kd.fresh' (Kd.R_lt (zR HO736.1)) k_ hk_.1), (Kd.fresh' (Kd.N_lt (by refine zrN ?_; exact HO739.1)) k_ hk_.1), (Kd.fresh' (Kd.R_lt (zR HO744.1)) k_ hk_.1), (Kd.fresh' (Kd.R_lt (zR HO747.1)) k_ hk_.1), (Kd.fresh' (Kd.N_lt (by refine zrN ?_; exact HO750.1)) k_ hk_.1)⟩)) (below_size zB0)); replace HO736 := zM (Kd.R_elder' (zR HO736.1) (Kd.R_base ho0) hb); replace HO739 := zM (Kd.N_mono (Kd.N_told (Kd.N_told (Kd.N_old (by refine zrN ?_; exact HO739.1) hb) (Kd.R_base ho0)) (Kd.N_base ho1)) (fun _ h_ => h_.1)); replace HO744 := zM (Kd.R_elder' (zR HO744.1) (Kd.R_base ho0) hb); replace HO747 := zM (Kd.R_elder' (zR HO747.1) (Kd.R_base ho0) hb); replace HO750 := zM (Kd.N_mono (Kd.N_told (Kd.N_told (Kd.N_old (by refine zrN ?_; exact HO750.1) hb) (Kd.R_base ho0)) (Kd.N_base ho1)) (fun _ h_ => h_.1)); replace HB := zM (below_step zB0 hb); clear hb ho0 ho1))
 (try simp only [Act.put, List.setIfInBounds_toArray, List.set_cons_zero, List.set_cons_succ])
 go_cut [86] (fun v86 wc => ∃ (kq : Nat) (x86_7 : Bool), v86 = .bool x86_7 ∧ Aside0 (laws_FnFinals.j0 kq t734 t737 t740 t741 t742 t745 t748 t751 t752 t753 x86_7 = some r) ∧ Aside0 (kq ≤ k) ∧ Aside0 (Kd.R (Kd.int .i64) 3 wc w.heap.size (fun k_ => some k_ ≠ (v743 : Value).ownBlock ∧ some k_ ≠ (v746 : Value).ownBlock) (.slice Ao10 t734.length co10) t734) ∧ Aside0 (Kd.N k29 29 wc w.heap.size (fun k_ => some k_ ≠ ((.slice Ao10 t734.length co10) : Value).ownBlock ∧ some k_ ≠ (v743 : Value).ownBlock ∧ some k_ ≠ (v746 : Value).ownBlock ∧ some k_ ≠ (v749 : Value).ownBlock) (.slice Ao11 t737.length co11) t737) ∧ Aside0 (Kd.R (Kd.int .i64) 3 wc w.heap.size (fun k_ => some k_ ≠ ((.slice Ao10 t734.length co10) : Value).ownBlock ∧ some k_ ≠ (v746 : Value).ownBlock) v743 t742) ∧ Aside0 (Kd.R (Kd.int .i64) 3 wc w.heap.size (fun k_ => some k_ ≠ ((.slice Ao10 t734.length co10) : Value).ownBlock ∧ some k_ ≠ (v743 : Value).ownBlock) v746 t745) ∧ Aside0 (Kd.N k29 29 wc w.heap.size (fun k_ => some k_ ≠ ((.slice Ao10 t734.length co10) : Value).ownBlock ∧ some k_ ≠ ((.slice Ao11 t737.length co11) : Value).ownBlock ∧ some k_ ≠ (v743 : Value).ownBlock ∧ some k_ ≠ (v746 : Value).ownBlock) v749 t748) ∧ Aside0 (Below w.heap.size w wc))
 case first =>
  have H := HC8.1
  clear HC8
  replace H := zO H
  obtain ⟨t763, A15, H⟩ := H
  replace H := zO H
  obtain ⟨t766, A16, H⟩ := H
  by_cases c17 : t766 = true
  rotate_left
  ·replace c17 := Bool.eq_false_iff.mpr c17
   subst c17
   rw [if_neg zF] at H
   have H' := zM H
   clear H
   go_wp2_with (first | ((with_reducible refine zG Try.func18 54 #[.slice Ao10 t734.length co10, .slice Ao11 t737.length co11, .int .i64 t740, .int .i64 t741] ?_); (with_reducible refine (spec_Finals.calls k _ _ t734 _ _ t737 t740 t741 t763 _ ?side1 ?side2 ?side3 ?side4 A15.1).mono ?_); (case side1 => exact zC (Kd.R_reads' HO736.1).2.2); (case side2 => exact (Kd.R_reads' HO736.1).2.1); (case side3 => exact zC (Kd.N_reads' HO739.1).2.2); (case side4 => exact (Kd.N_reads' HO739.1).2.1); rintro e w41 ⟨v764, rfl, ho0, hb⟩; refine ⟨_, rfl, ?_⟩; replace HO739 := zM (Kd.N_elder' (by refine zrN ?_; exact HO739.1) (Kd.R_base ho0) hb); replace HO750 := zM (Kd.N_elder' (by refine zrN ?_; exact HO750.1) (Kd.R_base ho0) hb); replace HO759 := zM (Kd.N_elder' (by refine zrN ?_; exact HO759.1) (Kd.R_base ho0) hb); have HO765 := zM (Kd.R_lower (Kd.R_new' (Kd.R_new' (Kd.R_new' (Kd.R_new' ho0 (Kd.R_lt (zR HO736.1))) (Kd.R_lt (zR HO744.1))) (Kd.R_lt (zR HO747.1))) (Kd.R_lt (zR HO756.1))) (below_size zB0)); replace HO736 := zM (Kd.R_elder' (zR HO736.1) (Kd.R_base ho0) hb); replace HO744 := zM (Kd.R_elder' (zR HO744.1) (Kd.R_base ho0) hb); replace HO747 := zM (Kd.R_elder' (zR HO747.1) (Kd.R_base ho0) hb); replace HO756 := zM (Kd.R_elder' (zR HO756.1) (Kd.R_base ho0) hb); replace HB := zM (below_step zB0 hb); clear hb ho0; obtain ⟨Ao42, co42, eo42⟩ := Kd.R_slice HO744.1; subst eo42; obtain ⟨Ao43, co43, eo43⟩ := Kd.R_slice HO765.1; subst eo43) | ((with_reducible refine zG Try.func16 55 #[.slice Ao42 t742.length co42, .slice Ao43 t763.length co43] ?_); (with_reducible refine (laws_sameInts.calls k _ _ t742 _ _ t763 false _ ?side1 ?side2 ?side3 ?side4 A16.1).mono ?_); (case side1 => exact zC (Kd.R_reads' HO744.1).2.2); (case side2 => exact (Kd.R_reads' HO744.1).2.1); (case side3 => exact zC (Kd.R_reads' HO765.1).2.2); (case side4 => exact (Kd.R_reads' HO765.1).2.1); rintro e w' ⟨rfl, ⟨nd, rfl⟩⟩; refine ⟨_, rfl, ?_⟩))
   go_meet
   case rel => exact ⟨_, (true), zJJ, H', ⟨by first | omega | exact Nat.le_refl _⟩, ⟨by refine zrR ?_; exact Kd.R_mono HO736.1 (fun _ hk => ⟨hk.1.1.1.2, hk.1.1.2⟩)⟩, ⟨by refine zrN ?_; exact Kd.N_mono HO739.1 (fun _ hk => ⟨hk.1.1.1.1.1.1, ⟨hk.1.1.1.1.1.2, ⟨hk.1.1.1.1.2, hk.1.1.1.2⟩⟩⟩)⟩, ⟨by refine zrR ?_; exact Kd.R_mono HO744.1 (fun _ hk => ⟨hk.1.1.1.2, hk.1.1.2⟩)⟩, ⟨by refine zrR ?_; exact Kd.R_mono HO747.1 (fun _ hk => ⟨hk.1.1.1.2, hk.1.1.2⟩)⟩, ⟨by refine zrN ?_; exact Kd.N_mono HO750.1 (fun _ hk => ⟨hk.1.1.1.2.1, ⟨hk.1.1.1.2.2.1, ⟨hk.1.1.1.2.2.2, hk.1.1.1.1⟩⟩⟩)⟩, ⟨zB0⟩⟩
  subst c17
  rw [if_pos rfl] at H
  replace H := zO H
  obtain ⟨t767, A18, H⟩ := H
  replace H := zO H
  obtain ⟨t768, A19, H⟩ := H
  by_cases c20 : (t767 != t768) = true
  ·rw [if_pos c20] at H
   have c20b0 : (t767 != t768) = true := c20
   (try (have c20b1 : decide (t767 = t768) = false := by simpa using c20))
   (try (have c20b2 : (t767 == t768) = false := by simpa using c20))
   (try (have c20b3 : ¬ (t767 = t768) := by simpa using c20))
   clear c20
   (first | rw [c20b0] | (simp only [i64_w, i32_w]; rw [c20b0]) | skip)
   have H' := zM H
   clear H
   go_wp2_with (first | ((with_reducible refine zG Try.func18 54 #[.slice Ao10 t734.length co10, .slice Ao11 t737.length co11, .int .i64 t740, .int .i64 t741] ?_); (with_reducible refine (spec_Finals.calls k _ _ t734 _ _ t737 t740 t741 t763 _ ?side1 ?side2 ?side3 ?side4 A15.1).mono ?_); (case side1 => exact zC (Kd.R_reads' HO736.1).2.2); (case side2 => exact (Kd.R_reads' HO736.1).2.1); (case side3 => exact zC (Kd.N_reads' HO739.1).2.2); (case side4 => exact (Kd.N_reads' HO739.1).2.1); rintro e w21 ⟨v764, rfl, ho0, hb⟩; refine ⟨_, rfl, ?_⟩; replace HO739 := zM (Kd.N_elder' (by refine zrN ?_; exact HO739.1) (Kd.R_base ho0) hb); replace HO750 := zM (Kd.N_elder' (by refine zrN ?_; exact HO750.1) (Kd.R_base ho0) hb); replace HO759 := zM (Kd.N_elder' (by refine zrN ?_; exact HO759.1) (Kd.R_base ho0) hb); have HO765 := zM (Kd.R_lower (Kd.R_new' (Kd.R_new' (Kd.R_new' (Kd.R_new' ho0 (Kd.R_lt (zR HO736.1))) (Kd.R_lt (zR HO744.1))) (Kd.R_lt (zR HO747.1))) (Kd.R_lt (zR HO756.1))) (below_size zB0)); replace HO736 := zM (Kd.R_elder' (zR HO736.1) (Kd.R_base ho0) hb); replace HO744 := zM (Kd.R_elder' (zR HO744.1) (Kd.R_base ho0) hb); replace HO747 := zM (Kd.R_elder' (zR HO747.1) (Kd.R_base ho0) hb); replace HO756 := zM (Kd.R_elder' (zR HO756.1) (Kd.R_base ho0) hb); replace HB := zM (below_step zB0 hb); clear hb ho0; obtain ⟨Ao22, co22, eo22⟩ := Kd.R_slice HO744.1; subst eo22; obtain ⟨Ao23, co23, eo23⟩ := Kd.R_slice HO765.1; subst eo23) | ((with_reducible refine zG Try.func16 55 #[.slice Ao22 t742.length co22, .slice Ao23 t763.length co23] ?_); (with_reducible refine (laws_sameInts.calls k _ _ t742 _ _ t763 true _ ?side1 ?side2 ?side3 ?side4 A16.1).mono ?_); (case side1 => exact zC (Kd.R_reads' HO744.1).2.2); (case side2 => exact (Kd.R_reads' HO744.1).2.1); (case side3 => exact zC (Kd.R_reads' HO765.1).2.2); (case side4 => exact (Kd.R_reads' HO765.1).2.1); rintro e w' ⟨rfl, ⟨nd, rfl⟩⟩; refine ⟨_, rfl, ?_⟩; obtain ⟨Ao24, co24, eo24⟩ := Kd.R_slice HO747.1; subst eo24; obtain ⟨Ao25, co25, eo25⟩ := Kd.N_slice HO750.1; subst eo25) | (go_at_call 15; (with_reducible refine (impl_Always.calls k _ _ t745 _ _ t748 t751 t752 t753 t767 _ ?side1 ?side2 ?side3 ?side4 A18.1).mono ?_); (case side1 => exact zC (Kd.R_reads' HO747.1).2.2); (case side2 => exact (Kd.R_reads' HO747.1).2.1); (case side3 => exact zC (Kd.N_reads' HO750.1).2.2); (case side4 => exact (Kd.N_reads' HO750.1).2.1); rintro e w26 ⟨rfl, hb⟩; replace HO736 := zM (Kd.R_below (zR HO736.1) hb); replace HO739 := zM (Kd.N_below (by refine zrN ?_; exact HO739.1) hb); replace HO744 := zM (Kd.R_below (zR HO744.1) hb); replace HO747 := zM (Kd.R_below (zR HO747.1) hb); replace HO750 := zM (Kd.N_below (by refine zrN ?_; exact HO750.1) hb); replace HO756 := zM (Kd.R_below (zR HO756.1) hb); replace HO759 := zM (Kd.N_below (by refine zrN ?_; exact HO759.1) hb); replace HO765 := zM (Kd.R_below (zR HO765.1) hb); replace HB := zM (below_step zB0 hb); clear hb) | (go_at_call 34; (with_reducible refine (spec_Always.calls k _ _ t745 _ _ t748 t751 t752 t753 t768 _ ?side1 ?side2 ?side3 ?side4 A19.1).mono ?_); (case side1 => exact zC (Kd.R_reads' HO747.1).2.2); (case side2 => exact (Kd.R_reads' HO747.1).2.1); (case side3 => exact zC (Kd.N_reads' HO750.1).2.2); (case side4 => exact (Kd.N_reads' HO750.1).2.1); rintro e w27 ⟨rfl, hb⟩; replace HO736 := zM (Kd.R_below (zR HO736.1) hb); replace HO739 := zM (Kd.N_below (by refine zrN ?_; exact HO739.1) hb); replace HO744 := zM (Kd.R_below (zR HO744.1) hb); replace HO747 := zM (Kd.R_below (zR HO747.1) hb); replace HO750 := zM (Kd.N_below (by refine zrN ?_; exact HO750.1) hb); replace HO756 := zM (Kd.R_below (zR HO756.1) hb); replace HO759 := zM (Kd.N_below (by refine zrN ?_; exact HO759.1) hb); replace HO765 := zM (Kd.R_below (zR HO765.1) hb); replace HB := zM (below_step zB0 hb); clear hb))
   go_meet
   case rel => exact ⟨_, (true), zJJ, H', ⟨by first | omega | exact Nat.le_refl _⟩, ⟨by refine zrR ?_; exact Kd.R_mono HO736.1 (fun _ hk => ⟨hk.1.1.1.2, hk.1.1.2⟩)⟩, ⟨by refine zrN ?_; exact Kd.N_mono HO739.1 (fun _ hk => ⟨hk.1.1.1.1.1.1, ⟨hk.1.1.1.1.1.2, ⟨hk.1.1.1.1.2, hk.1.1.1.2⟩⟩⟩)⟩, ⟨by refine zrR ?_; exact Kd.R_mono HO744.1 (fun _ hk => ⟨hk.1.1.1.2, hk.1.1.2⟩)⟩, ⟨by refine zrR ?_; exact Kd.R_mono HO747.1 (fun _ hk => ⟨hk.1.1.1.2, hk.1.1.2⟩)⟩, ⟨by refine zrN ?_; exact Kd.N_mono HO750.1 (fun _ hk => ⟨hk.1.1.1.2.1, ⟨hk.1.1.1.2.2.1, ⟨hk.1.1.1.2.2.2, hk.1.1.1.1⟩⟩⟩)⟩, ⟨zB0⟩⟩
  rw [if_neg c20] at H
  have c20b0 : (t767 != t768) = false := by simpa using c20
  (try (have c20b1 : decide (t767 = t768) = true := by simpa using c20))
  (try (have c20b2 : (t767 == t768) = true := by simpa using c20))
  clear c20
  (first | rw [c20b0] | (simp only [i64_w, i32_w]; rw [c20b0]) | skip)
  replace H := zO H
  obtain ⟨t769, A28, H⟩ := H
  replace H := zO H
  obtain ⟨t770, A29, H⟩ := H
  have H' := zM H
  clear H
  go_wp2_with (first | ((with_reducible refine zG Try.func18 54 #[.slice Ao10 t734.length co10, .slice Ao11 t737.length co11, .int .i64 t740, .int .i64 t741] ?_); (with_reducible refine (spec_Finals.calls k _ _ t734 _ _ t737 t740 t741 t763 _ ?side1 ?side2 ?side3 ?side4 A15.1).mono ?_); (case side1 => exact zC (Kd.R_reads' HO736.1).2.2); (case side2 => exact (Kd.R_reads' HO736.1).2.1); (case side3 => exact zC (Kd.N_reads' HO739.1).2.2); (case side4 => exact (Kd.N_reads' HO739.1).2.1); rintro e w30 ⟨v764, rfl, ho0, hb⟩; refine ⟨_, rfl, ?_⟩; replace HO739 := zM (Kd.N_elder' (by refine zrN ?_; exact HO739.1) (Kd.R_base ho0) hb); replace HO750 := zM (Kd.N_elder' (by refine zrN ?_; exact HO750.1) (Kd.R_base ho0) hb); replace HO759 := zM (Kd.N_elder' (by refine zrN ?_; exact HO759.1) (Kd.R_base ho0) hb); have HO765 := zM (Kd.R_lower (Kd.R_new' (Kd.R_new' (Kd.R_new' (Kd.R_new' ho0 (Kd.R_lt (zR HO736.1))) (Kd.R_lt (zR HO744.1))) (Kd.R_lt (zR HO747.1))) (Kd.R_lt (zR HO756.1))) (below_size zB0)); replace HO736 := zM (Kd.R_elder' (zR HO736.1) (Kd.R_base ho0) hb); replace HO744 := zM (Kd.R_elder' (zR HO744.1) (Kd.R_base ho0) hb); replace HO747 := zM (Kd.R_elder' (zR HO747.1) (Kd.R_base ho0) hb); replace HO756 := zM (Kd.R_elder' (zR HO756.1) (Kd.R_base ho0) hb); replace HB := zM (below_step zB0 hb); clear hb ho0; obtain ⟨Ao31, co31, eo31⟩ := Kd.R_slice HO744.1; subst eo31; obtain ⟨Ao32, co32, eo32⟩ := Kd.R_slice HO765.1; subst eo32) | ((with_reducible refine zG Try.func16 55 #[.slice Ao31 t742.length co31, .slice Ao32 t763.length co32] ?_); (with_reducible refine (laws_sameInts.calls k _ _ t742 _ _ t763 true _ ?side1 ?side2 ?side3 ?side4 A16.1).mono ?_); (case side1 => exact zC (Kd.R_reads' HO744.1).2.2); (case side2 => exact (Kd.R_reads' HO744.1).2.1); (case side3 => exact zC (Kd.R_reads' HO765.1).2.2); (case side4 => exact (Kd.R_reads' HO765.1).2.1); rintro e w' ⟨rfl, ⟨nd, rfl⟩⟩; refine ⟨_, rfl, ?_⟩; obtain ⟨Ao33, co33, eo33⟩ := Kd.R_slice HO747.1; subst eo33; obtain ⟨Ao34, co34, eo34⟩ := Kd.N_slice HO750.1; subst eo34) | (go_at_call 15; (with_reducible refine (impl_Always.calls k _ _ t745 _ _ t748 t751 t752 t753 t767 _ ?side1 ?side2 ?side3 ?side4 A18.1).mono ?_); (case side1 => exact zC (Kd.R_reads' HO747.1).2.2); (case side2 => exact (Kd.R_reads' HO747.1).2.1); (case side3 => exact zC (Kd.N_reads' HO750.1).2.2); (case side4 => exact (Kd.N_reads' HO750.1).2.1); rintro e w35 ⟨rfl, hb⟩; replace HO736 := zM (Kd.R_below (zR HO736.1) hb); replace HO739 := zM (Kd.N_below (by refine zrN ?_; exact HO739.1) hb); replace HO744 := zM (Kd.R_below (zR HO744.1) hb); replace HO747 := zM (Kd.R_below (zR HO747.1) hb); replace HO750 := zM (Kd.N_below (by refine zrN ?_; exact HO750.1) hb); replace HO756 := zM (Kd.R_below (zR HO756.1) hb); replace HO759 := zM (Kd.N_below (by refine zrN ?_; exact HO759.1) hb); replace HO765 := zM (Kd.R_below (zR HO765.1) hb); replace HB := zM (below_step zB0 hb); clear hb) | (go_at_call 34; (with_reducible refine (spec_Always.calls k _ _ t745 _ _ t748 t751 t752 t753 t768 _ ?side1 ?side2 ?side3 ?side4 A19.1).mono ?_); (case side1 => exact zC (Kd.R_reads' HO747.1).2.2); (case side2 => exact (Kd.R_reads' HO747.1).2.1); (case side3 => exact zC (Kd.N_reads' HO750.1).2.2); (case side4 => exact (Kd.N_reads' HO750.1).2.1); rintro e w36 ⟨rfl, hb⟩; replace HO736 := zM (Kd.R_below (zR HO736.1) hb); replace HO739 := zM (Kd.N_below (by refine zrN ?_; exact HO739.1) hb); replace HO744 := zM (Kd.R_below (zR HO744.1) hb); replace HO747 := zM (Kd.R_below (zR HO747.1) hb); replace HO750 := zM (Kd.N_below (by refine zrN ?_; exact HO750.1) hb); replace HO756 := zM (Kd.R_below (zR HO756.1) hb); replace HO759 := zM (Kd.N_below (by refine zrN ?_; exact HO759.1) hb); replace HO765 := zM (Kd.R_below (zR HO765.1) hb); replace HB := zM (below_step zB0 hb); clear hb; obtain ⟨Ao37, co37, eo37⟩ := Kd.R_slice HO756.1; subst eo37; obtain ⟨Ao38, co38, eo38⟩ := Kd.N_slice HO759.1; subst eo38) | (go_at_call 19; (with_reducible refine (impl_Ever.calls k _ _ t754 _ _ t757 t760 t761 t762 t769 _ ?side1 ?side2 ?side3 ?side4 A28.1).mono ?_); (case side1 => exact zC (Kd.R_reads' HO756.1).2.2); (case side2 => exact (Kd.R_reads' HO756.1).2.1); (case side3 => exact zC (Kd.N_reads' HO759.1).2.2); (case side4 => exact (Kd.N_reads' HO759.1).2.1); rintro e w39 ⟨rfl, hb⟩; replace HO736 := zM (Kd.R_below (zR HO736.1) hb); replace HO739 := zM (Kd.N_below (by refine zrN ?_; exact HO739.1) hb); replace HO744 := zM (Kd.R_below (zR HO744.1) hb); replace HO747 := zM (Kd.R_below (zR HO747.1) hb); replace HO750 := zM (Kd.N_below (by refine zrN ?_; exact HO750.1) hb); replace HO756 := zM (Kd.R_below (zR HO756.1) hb); replace HO759 := zM (Kd.N_below (by refine zrN ?_; exact HO759.1) hb); replace HO765 := zM (Kd.R_below (zR HO765.1) hb); replace HB := zM (below_step zB0 hb); clear hb) | (go_at_call 35; (with_reducible refine (spec_Ever.calls k _ _ t754 _ _ t757 t760 t761 t762 t770 _ ?side1 ?side2 ?side3 ?side4 A29.1).mono ?_); (case side1 => exact zC (Kd.R_reads' HO756.1).2.2); (case side2 => exact (Kd.R_reads' HO756.1).2.1); (case side3 => exact zC (Kd.N_reads' HO759.1).2.2); (case side4 => exact (Kd.N_reads' HO759.1).2.1); rintro e w40 ⟨rfl, hb⟩; replace HO736 := zM (Kd.R_below (zR HO736.1) hb); replace HO739 := zM (Kd.N_below (by refine zrN ?_; exact HO739.1) hb); replace HO744 := zM (Kd.R_below (zR HO744.1) hb); replace HO747 := zM (Kd.R_below (zR HO747.1) hb); replace HO750 := zM (Kd.N_below (by refine zrN ?_; exact HO750.1) hb); replace HO756 := zM (Kd.R_below (zR HO756.1) hb); replace HO759 := zM (Kd.N_below (by refine zrN ?_; exact HO759.1) hb); replace HO765 := zM (Kd.R_below (zR HO765.1) hb); replace HB := zM (below_step zB0 hb); clear hb))
  go_meet
  case rel => exact ⟨_, ((t769 != t770)), zJJ, H', ⟨by first | omega | exact Nat.le_refl _⟩, ⟨by refine zrR ?_; exact Kd.R_mono HO736.1 (fun _ hk => ⟨hk.1.1.1.2, hk.1.1.2⟩)⟩, ⟨by refine zrN ?_; exact Kd.N_mono HO739.1 (fun _ hk => ⟨hk.1.1.1.1.1.1, ⟨hk.1.1.1.1.1.2, ⟨hk.1.1.1.1.2, hk.1.1.1.2⟩⟩⟩)⟩, ⟨by refine zrR ?_; exact Kd.R_mono HO744.1 (fun _ hk => ⟨hk.1.1.1.2, hk.1.1.2⟩)⟩, ⟨by refine zrR ?_; exact Kd.R_mono HO747.1 (fun _ hk => ⟨hk.1.1.1.2, hk.1.1.2⟩)⟩, ⟨by refine zrN ?_; exact Kd.N_mono HO750.1 (fun _ hk => ⟨hk.1.1.1.2.1, ⟨hk.1.1.1.2.2.1, ⟨hk.1.1.1.2.2.2, hk.1.1.1.1⟩⟩⟩)⟩, ⟨zB0⟩⟩
 case rest =>
  clear HC8
  obtain ⟨kq, x86_7, rfl, HA, HJ7, HO_3, HO_4, HO_7, HO_8, HO_9, HB⟩ := hcut
  cases kq with
  | zero => exact absurd HA.1 (by simp [laws_FnFinals.j0])
  | succ kj7 =>
   have H := HA.1
   clear HA
   simp only [laws_FnFinals.j0] at H
   by_cases c44 : x86_7 = true
   ·subst c44
    rw [if_pos rfl] at H
    obtain rfl := Option.some.inj H
    go_wp2
    go_ret
    exact ⟨zE, zB0⟩
   replace c44 := Bool.eq_false_iff.mpr c44
   subst c44
   rw [if_neg zF] at H
   have H' := zM H
   clear H
   go_wp2
   go_loopg [18] kj7 (fun kq v18 w' => ∃ (x18_2 : Int), v18 = .int .i64 x18_2 ∧ Aside0 (laws_FnFinals.l0 kq t734 t737 t740 t741 t742 t745 t748 t751 t752 t753 x18_2 = some r) ∧ Aside0 (kq ≤ kj7) ∧ Aside0 (Kd.R (Kd.int .i64) 3 w' w.heap.size (fun k_ => some k_ ≠ (v743 : Value).ownBlock ∧ some k_ ≠ (v746 : Value).ownBlock) (.slice Ao10 t734.length co10) t734) ∧ Aside0 (Kd.N k29 29 w' w.heap.size (fun k_ => some k_ ≠ ((.slice Ao10 t734.length co10) : Value).ownBlock ∧ some k_ ≠ (v743 : Value).ownBlock ∧ some k_ ≠ (v746 : Value).ownBlock ∧ some k_ ≠ (v749 : Value).ownBlock) (.slice Ao11 t737.length co11) t737) ∧ Aside0 (Kd.R (Kd.int .i64) 3 w' w.heap.size (fun k_ => some k_ ≠ ((.slice Ao10 t734.length co10) : Value).ownBlock ∧ some k_ ≠ (v746 : Value).ownBlock) v743 t742) ∧ Aside0 (Kd.R (Kd.int .i64) 3 w' w.heap.size (fun k_ => some k_ ≠ ((.slice Ao10 t734.length co10) : Value).ownBlock ∧ some k_ ≠ (v743 : Value).ownBlock) v746 t745) ∧ Aside0 (Kd.N k29 29 w' w.heap.size (fun k_ => some k_ ≠ ((.slice Ao10 t734.length co10) : Value).ownBlock ∧ some k_ ≠ ((.slice Ao11 t737.length co11) : Value).ownBlock ∧ some k_ ≠ (v743 : Value).ownBlock ∧ some k_ ≠ (v746 : Value).ownBlock) v749 t748) ∧ Aside0 (Below w.heap.size w w'))
   case atStart => exact ⟨(0), zJJ, H', ⟨Nat.le_refl _⟩, ⟨zR HO_3.1⟩, ⟨by refine zrN ?_; exact HO_4.1⟩, ⟨zR HO_7.1⟩, ⟨zR HO_8.1⟩, ⟨by refine zrN ?_; exact HO_9.1⟩, ⟨zB0⟩⟩
   case round =>
    clear H'
    obtain ⟨x18_2, rfl, HA, HK2, HO_3, HO_4, HO_7, HO_8, HO_9, HB⟩ := hrel
    cases gk with
    | zero => exact absurd HA.1 (by simp [laws_FnFinals.l0])
    | succ k2 =>
     have H := HA.1
     clear HA
     simp only [laws_FnFinals.l0] at H
     by_cases c45 : x18_2 < (t742.length : Int)
     rotate_left
     ·rw [if_neg c45] at H
      have c45b0 := decide_eq_false c45
      clear c45
      replace H := zO H
      obtain ⟨t771, A85, H⟩ := H
      by_cases c86 : t771 = true
      rotate_left
      ·replace c86 := Bool.eq_false_iff.mpr c86
       subst c86
       rw [if_neg zF] at H
       obtain rfl := Option.some.inj H
       obtain ⟨Ao93, co93, eo93⟩ := Kd.R_slice HO_7.1
       subst eo93
       obtain ⟨Ao94, co94, eo94⟩ := Kd.R_slice HO_8.1
       subst eo94
       obtain ⟨Ao95, co95, eo95⟩ := Kd.N_slice HO_9.1
       subst eo95
       go_wp2_with (first | ((with_reducible refine zG Try.func15 139 #[.slice Ao94 t745.length co94, .slice Ao95 t748.length co95, .int .i64 t751, .int .i64 t752, .int .i64 t753] ?_); (with_reducible refine (impl_Always.calls k2 _ _ t745 _ _ t748 t751 t752 t753 false _ ?side1 ?side2 ?side3 ?side4 A85.1).mono ?_); (case side1 => exact zC (Kd.R_reads' HO_8.1).2.2); (case side2 => exact (Kd.R_reads' HO_8.1).2.1); (case side3 => exact zC (Kd.N_reads' HO_9.1).2.2); (case side4 => exact (Kd.N_reads' HO_9.1).2.1); rintro e w96 ⟨rfl, hb⟩; refine ⟨_, rfl, ?_⟩; replace HO_3 := zM (Kd.R_below (zR HO_3.1) hb); replace HO_4 := zM (Kd.N_below (by refine zrN ?_; exact HO_4.1) hb); replace HO_7 := zM (Kd.R_below (zR HO_7.1) hb); replace HO_8 := zM (Kd.R_below (zR HO_8.1) hb); replace HO_9 := zM (Kd.N_below (by refine zrN ?_; exact HO_9.1) hb); replace HB := zM (below_step zB0 hb); clear hb))
       go_ret
       exact ⟨zE, zB0⟩
      subst c86
      rw [if_pos rfl] at H
      replace H := zO H
      obtain ⟨t772, A87, H⟩ := H
      obtain rfl := Option.some.inj H
      obtain ⟨Ao88, co88, eo88⟩ := Kd.R_slice HO_7.1
      subst eo88
      obtain ⟨Ao89, co89, eo89⟩ := Kd.R_slice HO_8.1
      subst eo89
      obtain ⟨Ao90, co90, eo90⟩ := Kd.N_slice HO_9.1
      subst eo90
      go_wp2_with (first | ((with_reducible refine zG Try.func15 139 #[.slice Ao89 t745.length co89, .slice Ao90 t748.length co90, .int .i64 t751, .int .i64 t752, .int .i64 t753] ?_); (with_reducible refine (impl_Always.calls k2 _ _ t745 _ _ t748 t751 t752 t753 true _ ?side1 ?side2 ?side3 ?side4 A85.1).mono ?_); (case side1 => exact zC (Kd.R_reads' HO_8.1).2.2); (case side2 => exact (Kd.R_reads' HO_8.1).2.1); (case side3 => exact zC (Kd.N_reads' HO_9.1).2.2); (case side4 => exact (Kd.N_reads' HO_9.1).2.1); rintro e w91 ⟨rfl, hb⟩; refine ⟨_, rfl, ?_⟩; replace HO_3 := zM (Kd.R_below (zR HO_3.1) hb); replace HO_4 := zM (Kd.N_below (by refine zrN ?_; exact HO_4.1) hb); replace HO_7 := zM (Kd.R_below (zR HO_7.1) hb); replace HO_8 := zM (Kd.R_below (zR HO_8.1) hb); replace HO_9 := zM (Kd.N_below (by refine zrN ?_; exact HO_9.1) hb); replace HB := zM (below_step zB0 hb); clear hb) | (go_at_call 19; (with_reducible refine (impl_Ever.calls k2 _ _ t745 _ _ t748 t751 t752 t753 t772 _ ?side1 ?side2 ?side3 ?side4 A87.1).mono ?_); (case side1 => exact zC (Kd.R_reads' HO_8.1).2.2); (case side2 => exact (Kd.R_reads' HO_8.1).2.1); (case side3 => exact zC (Kd.N_reads' HO_9.1).2.2); (case side4 => exact (Kd.N_reads' HO_9.1).2.1); rintro e w92 ⟨rfl, hb⟩; replace HO_3 := zM (Kd.R_below (zR HO_3.1) hb); replace HO_4 := zM (Kd.N_below (by refine zrN ?_; exact HO_4.1) hb); replace HO_7 := zM (Kd.R_below (zR HO_7.1) hb); replace HO_8 := zM (Kd.R_below (zR HO_8.1) hb); replace HO_9 := zM (Kd.N_below (by refine zrN ?_; exact HO_9.1) hb); replace HB := zM (below_step zB0 hb); clear hb))
      go_ret
      exact ⟨zE, zB0⟩
     rw [if_pos c45] at H
     have c45b0 := decide_eq_true c45
     clear c45
     by_cases c46 : x18_2 > 0
     rotate_left
     ·rw [if_neg c46] at H
      have c46b0 := decide_eq_false c46
      clear c46
      replace H := zIt H
      obtain ⟨c69b0, H⟩ := H
      replace H := zO H
      obtain ⟨t780, A70, H⟩ := H
      by_cases c71 : t780 = true
      rotate_left
      ·replace c71 := Bool.eq_false_iff.mpr c71
       subst c71
       rw [if_neg zF] at H
       obtain rfl := Option.some.inj H
       obtain ⟨Ao82, co82, eo82⟩ := Kd.R_slice HO_7.1
       subst eo82
       try go_wp2
       replace HO_3 := zM (Kd.R_drew HO_3.1)
       replace HO_4 := zM (Kd.N_drew HO_4.1)
       replace HO_7 := zM (Kd.R_drew HO_7.1)
       replace HO_8 := zM (Kd.R_drew HO_8.1)
       replace HO_9 := zM (Kd.N_drew HO_9.1)
       replace HB := zM (below_drew1 HB.1)
       obtain ⟨p779, q779, ad779, e779, hx779_0⟩ := zRd (Kd.at_int (Kd.R_reads' HO_7.1).2.2 x18_2)
       cases e779
       refine start_ (n := 41) (S := fun w' => w'.cell? (ad779.add (x18_2).toNat) = some (.int .i64 (rd t742 x18_2))) (ds := []) zq18_0 (by kernel_rfl) rfl rfl (hx779_0) (fun hHeld => ?_); refine with_tabW laws_FnFinals.tab12 laws_FnFinals.bits12 (fun HT_ HW_ => ?_)
       generalize wr.drew = w83 at HO_3 HO_4 HO_7 HO_8 HO_9 HB hx779_0 hHeld ⊢
       refine zPu 0 ?_
       refine zPu 1 ?_
       refine zPu 2 ?_
       refine zPn 3 ?_
       refine zPn 4 ?_
       refine zPn 5 ?_
       refine zPn 6 ?_
       refine zPn 7 ?_
       refine zPn 8 ?_
       refine zPn 9 ?_
       refine zPn 10 ?_
       refine zPn 11 ?_
       refine zPn 12 ?_
       refine zPu 13 ?_
       refine zPu 14 ?_
       refine zPu 15 ?_
       refine zPu 16 ?_
       refine zPu 17 ?_
       refine zPu 18 ?_
       refine zPu 19 ?_
       refine zPu 20 ?_
       refine zPu 21 ?_
       refine zTk1 22 hHeld ?_
       refine zOn 23 (some 116) fun K hK => ?_
       refine zGs Try.func19 #[.slice Ao10 t734.length co10, .slice Ao11 t737.length co11, .int .i64 t740, .int .i64 t741, .int .i64 (rd t742 x18_2)] ?_
       with_reducible refine (impl_Ever.calls k2 _ _ t734 _ _ t737 t740 t741 (rd t742 x18_2) false _ ?side1 ?side2 ?side3 ?side4 A70.1).mono ?_
       (case side1 => exact zC (Kd.R_reads' HO_3.1).2.2)
       (case side2 => exact (Kd.R_reads' HO_3.1).2.1)
       (case side3 => exact zC (Kd.N_reads' HO_4.1).2.2)
       (case side4 => exact (Kd.N_reads' HO_4.1).2.1)
       rintro e w84 ⟨rfl, hb⟩
       have HS0_ := (hb.cell (World.block_lt_of_cell? _ _ (hHeld))).trans (hHeld)
       refine ⟨_, rfl, ?_⟩
       replace HO_3 := zM (Kd.R_below (zR HO_3.1) hb)
       replace HO_4 := zM (Kd.N_below (by refine zrN ?_; exact HO_4.1) hb)
       replace HO_7 := zM (Kd.R_below (zR HO_7.1) hb)
       replace HO_8 := zM (Kd.R_below (zR HO_8.1) hb)
       replace HO_9 := zM (Kd.N_below (by refine zrN ?_; exact HO_9.1) hb)
       replace HB := zM (below_step zB0 hb)
       refine hK.out _ _ (HS0_) (fun hHeld => ?_)
       clear hK K
       refine zNo ?_
       refine zPu 24 ?_
       refine zPu 25 ?_
       refine zPu 26 ?_
       refine zPn 27 ?_
       refine zPn 28 ?_
       refine zPn 29 ?_
       refine zPn 30 ?_
       refine zPn 31 ?_
       refine zPn 32 ?_
       refine zPn 33 ?_
       refine zPn 34 ?_
       refine zPn 35 ?_
       refine zPn 36 ?_
       refine zPn 37 ?_
       refine zPn 38 ?_
       refine zPn 39 ?_
       refine zPu 40 ?_
       refine done_ (done_of HT_.1 (by kernel_rfl)) ?_
       try go_wp2
       go_ret
       exact ⟨zE, zB0⟩
      subst c71
      rw [if_pos rfl] at H
      replace H := zO H
      obtain ⟨t782, A72, H⟩ := H
      by_cases c73 : (t782 != ((t742.length : Int) == 1)) = true
      ·rw [if_pos c73] at H
       have c73b0 : (t782 != ((t742.length : Int) == 1)) = true := c73
       (try (have c73b1 : decide (t782 = ((t742.length : Int) == 1)) = false := by simpa using c73))
       (try (have c73b2 : (t782 == ((t742.length : Int) == 1)) = false := by simpa using c73))
       (try (have c73b3 : ¬ (t782 = ((t742.length : Int) == 1)) := by simpa using c73))
       clear c73
       obtain rfl := Option.some.inj H
       obtain ⟨Ao74, co74, eo74⟩ := Kd.R_slice HO_7.1
       subst eo74
       try go_wp2
       replace HO_3 := zM (Kd.R_drew HO_3.1)
       replace HO_4 := zM (Kd.N_drew HO_4.1)
       replace HO_7 := zM (Kd.R_drew HO_7.1)
       replace HO_8 := zM (Kd.R_drew HO_8.1)
       replace HO_9 := zM (Kd.N_drew HO_9.1)
       replace HB := zM (below_drew1 HB.1)
       obtain ⟨p779, q779, ad779, e779, hx779_0⟩ := zRd (Kd.at_int (Kd.R_reads' HO_7.1).2.2 x18_2)
       cases e779
       obtain ⟨p781, q781, ad781, e781, hx781_0⟩ := zRd (Kd.at_int (Kd.R_reads' HO_7.1).2.2 x18_2)
       obtain rfl : ad779 = ad781 := (by injection e781)
       refine start_ (n := 41) (S := fun w' => w'.cell? (ad779.add (x18_2).toNat) = some (.int .i64 (rd t742 x18_2)) ∧ w'.cell? (ad779.add (x18_2).toNat) = some (.int .i64 (rd t742 x18_2))) (ds := []) zq18_0 (by kernel_rfl) rfl rfl ⟨hx779_0, hx781_0⟩ (fun hHeld => ?_); refine with_tabW laws_FnFinals.tab12 laws_FnFinals.bits12 (fun HT_ HW_ => ?_)
       generalize wr.drew = w75 at HO_3 HO_4 HO_7 HO_8 HO_9 HB hx779_0 hx781_0 hHeld ⊢
       refine zPu 0 ?_
       refine zPu 1 ?_
       refine zPu 2 ?_
       refine zPn 3 ?_
       refine zPn 4 ?_
       refine zPn 5 ?_
       refine zPn 6 ?_
       refine zPn 7 ?_
       refine zPn 8 ?_
       refine zPn 9 ?_
       refine zPn 10 ?_
       refine zPn 11 ?_
       refine zPn 12 ?_
       refine zPu 13 ?_
       refine zPu 14 ?_
       refine zPu 15 ?_
       refine zPu 16 ?_
       refine zPu 17 ?_
       refine zPu 18 ?_
       refine zPu 19 ?_
       refine zPu 20 ?_
       refine zPu 21 ?_
       refine zTk2 22 hHeld ?_
       refine zOn 23 (some 116) fun K hK => ?_
       refine zGs Try.func19 #[.slice Ao10 t734.length co10, .slice Ao11 t737.length co11, .int .i64 t740, .int .i64 t741, .int .i64 (rd t742 x18_2)] ?_
       with_reducible refine (impl_Ever.calls k2 _ _ t734 _ _ t737 t740 t741 (rd t742 x18_2) true _ ?side1 ?side2 ?side3 ?side4 A70.1).mono ?_
       (case side1 => exact zC (Kd.R_reads' HO_3.1).2.2)
       (case side2 => exact (Kd.R_reads' HO_3.1).2.1)
       (case side3 => exact zC (Kd.N_reads' HO_4.1).2.2)
       (case side4 => exact (Kd.N_reads' HO_4.1).2.1)
       rintro e w76 ⟨rfl, hb⟩
       refine ⟨_, rfl, ?_⟩
       replace HO_3 := zM (Kd.R_below (zR HO_3.1) hb)
       replace HO_4 := zM (Kd.N_below (by refine zrN ?_; exact HO_4.1) hb)
       replace HO_7 := zM (Kd.R_below (zR HO_7.1) hb)
       replace HO_8 := zM (Kd.R_below (zR HO_8.1) hb)
       replace HO_9 := zM (Kd.N_below (by refine zrN ?_; exact HO_9.1) hb)
       replace HB := zM (below_step zB0 hb)
       refine hK.out _ _ zCs fun hHeld => ?_
       clear hK K
       refine zNo ?_
       refine zPu 24 ?_
       refine zPu 25 ?_
       refine zPu 26 ?_
       refine zPu 27 ?_
       refine zPu 28 ?_
       refine zPu 29 ?_
       refine zPu 30 ?_
       refine zPu 31 ?_
       refine zPu 32 ?_
       refine zPu 33 ?_
       refine zPu 36 ?_
       refine zPu 37 ?_
       refine zPu 38 ?_
       refine zTk2 34 hHeld ?_
       refine zOn 35 (some 128) fun K hK => ?_
       refine zGs Try.func15 #[.slice Ao10 t734.length co10, .slice Ao11 t737.length co11, .int .i64 t740, .int .i64 t741, .int .i64 (rd t742 x18_2)] ?_
       with_reducible refine (impl_Always.calls k2 _ _ t734 _ _ t737 t740 t741 (rd t742 x18_2) t782 _ ?side1 ?side2 ?side3 ?side4 A72.1).mono ?_
       (case side1 => exact zC (Kd.R_reads' HO_3.1).2.2)
       (case side2 => exact (Kd.R_reads' HO_3.1).2.1)
       (case side3 => exact zC (Kd.N_reads' HO_4.1).2.2)
       (case side4 => exact (Kd.N_reads' HO_4.1).2.1)
       rintro e w77 ⟨rfl, hb⟩
       refine ⟨_, rfl, ?_⟩
       replace HO_3 := zM (Kd.R_below (zR HO_3.1) hb)
       replace HO_4 := zM (Kd.N_below (by refine zrN ?_; exact HO_4.1) hb)
       replace HO_7 := zM (Kd.R_below (zR HO_7.1) hb)
       replace HO_8 := zM (Kd.R_below (zR HO_8.1) hb)
       replace HO_9 := zM (Kd.N_below (by refine zrN ?_; exact HO_9.1) hb)
       replace HB := zM (below_step zB0 hb)
       refine hK.out _ _ zCs fun hHeld => ?_
       clear hK K
       refine zNo ?_
       refine zPu 39 ?_
       refine zPu 40 ?_
       refine done_ (done_of HT_.1 (by kernel_rfl)) ?_
       try go_wp2
       go_ret
       exact ⟨zE, zB0⟩
      rw [if_neg c73] at H
      have c73b0 : (t782 != ((t742.length : Int) == 1)) = false := by simpa using c73
      (try (have c73b1 : decide (t782 = ((t742.length : Int) == 1)) = true := by simpa using c73))
      (try (have c73b2 : (t782 == ((t742.length : Int) == 1)) = true := by simpa using c73))
      clear c73
      have H' := zM H
      clear H
      obtain ⟨Ao78, co78, eo78⟩ := Kd.R_slice HO_7.1
      subst eo78
      try go_wp2
      replace HO_3 := zM (Kd.R_drew HO_3.1)
      replace HO_4 := zM (Kd.N_drew HO_4.1)
      replace HO_7 := zM (Kd.R_drew HO_7.1)
      replace HO_8 := zM (Kd.R_drew HO_8.1)
      replace HO_9 := zM (Kd.N_drew HO_9.1)
      replace HB := zM (below_drew1 HB.1)
      obtain ⟨p779, q779, ad779, e779, hx779_0⟩ := zRd (Kd.at_int (Kd.R_reads' HO_7.1).2.2 x18_2)
      cases e779
      obtain ⟨p781, q781, ad781, e781, hx781_0⟩ := zRd (Kd.at_int (Kd.R_reads' HO_7.1).2.2 x18_2)
      obtain rfl : ad779 = ad781 := (by injection e781)
      refine start_ (n := 41) (S := fun w' => w'.cell? (ad779.add (x18_2).toNat) = some (.int .i64 (rd t742 x18_2)) ∧ w'.cell? (ad779.add (x18_2).toNat) = some (.int .i64 (rd t742 x18_2))) (ds := []) zq18_0 (by kernel_rfl) rfl rfl ⟨hx779_0, hx781_0⟩ (fun hHeld => ?_); refine with_tabW laws_FnFinals.tab12 laws_FnFinals.bits12 (fun HT_ HW_ => ?_)
      generalize wr.drew = w79 at HO_3 HO_4 HO_7 HO_8 HO_9 HB hx779_0 hx781_0 hHeld ⊢
      refine zPu 0 ?_
      refine zPu 1 ?_
      refine zPu 2 ?_
      refine zPn 3 ?_
      refine zPn 4 ?_
      refine zPn 5 ?_
      refine zPn 6 ?_
      refine zPn 7 ?_
      refine zPn 8 ?_
      refine zPn 9 ?_
      refine zPn 10 ?_
      refine zPn 11 ?_
      refine zPn 12 ?_
      refine zPu 13 ?_
      refine zPu 14 ?_
      refine zPu 15 ?_
      refine zPu 16 ?_
      refine zPu 17 ?_
      refine zPu 18 ?_
      refine zPu 19 ?_
      refine zPu 20 ?_
      refine zPu 21 ?_
      refine zTk2 22 hHeld ?_
      refine zOn 23 (some 116) fun K hK => ?_
      refine zGs Try.func19 #[.slice Ao10 t734.length co10, .slice Ao11 t737.length co11, .int .i64 t740, .int .i64 t741, .int .i64 (rd t742 x18_2)] ?_
      with_reducible refine (impl_Ever.calls k2 _ _ t734 _ _ t737 t740 t741 (rd t742 x18_2) true _ ?side1 ?side2 ?side3 ?side4 A70.1).mono ?_
      (case side1 => exact zC (Kd.R_reads' HO_3.1).2.2)
      (case side2 => exact (Kd.R_reads' HO_3.1).2.1)
      (case side3 => exact zC (Kd.N_reads' HO_4.1).2.2)
      (case side4 => exact (Kd.N_reads' HO_4.1).2.1)
      rintro e w80 ⟨rfl, hb⟩
      refine ⟨_, rfl, ?_⟩
      replace HO_3 := zM (Kd.R_below (zR HO_3.1) hb)
      replace HO_4 := zM (Kd.N_below (by refine zrN ?_; exact HO_4.1) hb)
      replace HO_7 := zM (Kd.R_below (zR HO_7.1) hb)
      replace HO_8 := zM (Kd.R_below (zR HO_8.1) hb)
      replace HO_9 := zM (Kd.N_below (by refine zrN ?_; exact HO_9.1) hb)
      replace HB := zM (below_step zB0 hb)
      refine hK.out _ _ zCs fun hHeld => ?_
      clear hK K
      refine zNo ?_
      refine zPu 24 ?_
      refine zPu 25 ?_
      refine zPu 26 ?_
      refine zPu 27 ?_
      refine zPu 28 ?_
      refine zPu 29 ?_
      refine zPu 30 ?_
      refine zPu 31 ?_
      refine zPu 32 ?_
      refine zPu 33 ?_
      refine zPu 36 ?_
      refine zPu 37 ?_
      refine zPu 38 ?_
      refine zTk2 34 hHeld ?_
      refine zOn 35 (some 128) fun K hK => ?_
      refine zGs Try.func15 #[.slice Ao10 t734.length co10, .slice Ao11 t737.length co11, .int .i64 t740, .int .i64 t741, .int .i64 (rd t742 x18_2)] ?_
      with_reducible refine (impl_Always.calls k2 _ _ t734 _ _ t737 t740 t741 (rd t742 x18_2) t782 _ ?side1 ?side2 ?side3 ?side4 A72.1).mono ?_
      (case side1 => exact zC (Kd.R_reads' HO_3.1).2.2)
      (case side2 => exact (Kd.R_reads' HO_3.1).2.1)
      (case side3 => exact zC (Kd.N_reads' HO_4.1).2.2)
      (case side4 => exact (Kd.N_reads' HO_4.1).2.1)
      rintro e w81 ⟨rfl, hb⟩
      refine ⟨_, rfl, ?_⟩
      replace HO_3 := zM (Kd.R_below (zR HO_3.1) hb)
      replace HO_4 := zM (Kd.N_below (by refine zrN ?_; exact HO_4.1) hb)
      replace HO_7 := zM (Kd.R_below (zR HO_7.1) hb)
      replace HO_8 := zM (Kd.R_below (zR HO_8.1) hb)
      replace HO_9 := zM (Kd.N_below (by refine zrN ?_; exact HO_9.1) hb)
      replace HB := zM (below_step zB0 hb)
      refine hK.out _ _ zCs fun hHeld => ?_
      clear hK K
      refine zNo ?_
      refine zPu 39 ?_
      refine zPu 40 ?_
      refine done_ (done_of HT_.1 (by kernel_rfl)) ?_
      try go_wp2
      go_roundg k2
      case measure => have := HJ7.1; have := HK2.1; omega
      case rel => exact ⟨(wrap64 (x18_2 + 1)), zJJ, H', ⟨by have := HJ7.1; have := HK2.1; omega⟩, ⟨zR HO_3.1⟩, ⟨by refine zrN ?_; exact HO_4.1⟩, ⟨zR HO_7.1⟩, ⟨zR HO_8.1⟩, ⟨by refine zrN ?_; exact HO_9.1⟩, ⟨zB0⟩⟩
     rw [if_pos c46] at H
     have c46b0 := decide_eq_true c46
     clear c46
     obtain ⟨ji47, hji47⟩ : ∃ j_ : Int, (wrap64 (x18_2 - 1)) = j_ := ⟨_, rfl⟩
     replace H : (if 0 ≤ (ji47) then (if (ji47) < (t742.length : Int) then (if 0 ≤ x18_2 then (if (rd t742 (ji47)) ≥ (rd t742 x18_2) then (some false) else ((impl_Ever.f k2 t734 t737 t740 t741 (rd t742 x18_2)).bind fun t776 => (if t776 = true then ((impl_Always.f k2 t734 t737 t740 t741 (rd t742 x18_2)).bind fun t778 => (if (t778 != ((t742.length : Int) == 1)) = true then (some false) else (laws_FnFinals.l0 k2 t734 t737 t740 t741 t742 t745 t748 t751 t752 t753 (wrap64 (x18_2 + 1))))) else (some false)))) else (none)) else (none)) else (none)) = some r := by first | (rw [hji47] at H; exact H) | (simp only [hji47] at H ⊢; exact H)
     have hji47w : (IntKind.i64.wrap (x18_2 - 1)) = ji47 := (i64_w _).trans hji47
     replace H := zIt H
     obtain ⟨c48b0, H⟩ := H
     replace H := zIt H
     obtain ⟨c49b0, H⟩ := H
     replace H := zIt H
     obtain ⟨c50b0, H⟩ := H
     by_cases c51 : (rd t742 (ji47)) ≥ (rd t742 x18_2)
     ·rw [if_pos c51] at H
      have c51b0 := decide_eq_true c51
      clear c51
      obtain rfl := Option.some.inj H
      obtain ⟨Ao52, co52, eo52⟩ := Kd.R_slice HO_7.1
      subst eo52
      try go_wp2
      replace HO_3 := zM (Kd.R_drew HO_3.1)
      replace HO_4 := zM (Kd.N_drew HO_4.1)
      replace HO_7 := zM (Kd.R_drew HO_7.1)
      replace HO_8 := zM (Kd.R_drew HO_8.1)
      replace HO_9 := zM (Kd.N_drew HO_9.1)
      replace HB := zM (below_drew1 HB.1)
      obtain ⟨p773, q773, ad773, e773, hx773_0⟩ := zRd (Kd.at_int (Kd.R_reads' HO_7.1).2.2 (ji47))
      cases e773
      obtain ⟨p774, q774, ad774, e774, hx774_0⟩ := zRd (Kd.at_int (Kd.R_reads' HO_7.1).2.2 x18_2)
      obtain rfl : ad773 = ad774 := (by injection e774)
      refine start_ (n := 41) (S := fun w' => w'.cell? (ad773.add ((ji47)).toNat) = some (.int .i64 (rd t742 (ji47))) ∧ w'.cell? (ad773.add (x18_2).toNat) = some (.int .i64 (rd t742 x18_2))) (ds := []) zq18_0 (by kernel_rfl) rfl rfl ⟨hx773_0, hx774_0⟩ (fun hHeld => ?_); refine with_tabW laws_FnFinals.tab12 laws_FnFinals.bits12 (fun HT_ HW_ => ?_)
      generalize wr.drew = w53 at HO_3 HO_4 HO_7 HO_8 HO_9 HB hx773_0 hx774_0 hHeld ⊢
      refine zPu 0 ?_
      refine zPu 1 ?_
      refine zPu 2 ?_
      refine zPu 3 ?_
      refine zPu 4 ?_
      refine zPu 5 ?_
      refine zPu 6 ?_
      refine zPu 8 ?_
      refine zPu 9 ?_
      refine zPu 10 ?_
      refine zTk2 7 hHeld ?_
      refine zTk2 11 hHeld ?_
      refine zPu 12 ?_
      refine zPu 13 ?_
      refine zPu 14 ?_
      refine zPn 15 ?_
      refine zPn 16 ?_
      refine zPn 17 ?_
      refine zPn 18 ?_
      refine zPn 19 ?_
      refine zPn 20 ?_
      refine zPn 21 ?_
      refine zPn 22 ?_
      refine zPn 23 ?_
      refine zPn 24 ?_
      refine zPu 25 ?_
      refine zPu 26 ?_
      refine zPn 27 ?_
      refine zPn 28 ?_
      refine zPn 29 ?_
      refine zPn 30 ?_
      refine zPn 31 ?_
      refine zPn 32 ?_
      refine zPn 33 ?_
      refine zPn 34 ?_
      refine zPn 35 ?_
      refine zPn 36 ?_
      refine zPn 37 ?_
      refine zPn 38 ?_
      refine zPn 39 ?_
      refine zPu 40 ?_
      refine done_ (done_of HT_.1 (by kernel_rfl)) ?_
      try go_wp2
      go_ret
      exact ⟨by first | rfl | (simp [errW_none, errW_some] <;> rfl) | (simp only [← hji47]; first | rfl | (simp [errW_none, errW_some] <;> rfl)) | (simp [*, errW_none, errW_some] <;> rfl), zB0⟩
     rw [if_neg c51] at H
     have c51b0 := decide_eq_false c51
     clear c51
     replace H := zO H
     obtain ⟨t776, A54, H⟩ := H
     by_cases c55 : t776 = true
     rotate_left
     ·replace c55 := Bool.eq_false_iff.mpr c55
      subst c55
      rw [if_neg zF] at H
      obtain rfl := Option.some.inj H
      obtain ⟨Ao66, co66, eo66⟩ := Kd.R_slice HO_7.1
      subst eo66
      try go_wp2
      replace HO_3 := zM (Kd.R_drew HO_3.1)
      replace HO_4 := zM (Kd.N_drew HO_4.1)
      replace HO_7 := zM (Kd.R_drew HO_7.1)
      replace HO_8 := zM (Kd.R_drew HO_8.1)
      replace HO_9 := zM (Kd.N_drew HO_9.1)
      replace HB := zM (below_drew1 HB.1)
      obtain ⟨p773, q773, ad773, e773, hx773_0⟩ := zRd (Kd.at_int (Kd.R_reads' HO_7.1).2.2 (ji47))
      cases e773
      obtain ⟨p774, q774, ad774, e774, hx774_0⟩ := zRd (Kd.at_int (Kd.R_reads' HO_7.1).2.2 x18_2)
      obtain rfl : ad773 = ad774 := (by injection e774)
      obtain ⟨p775, q775, ad775, e775, hx775_0⟩ := zRd (Kd.at_int (Kd.R_reads' HO_7.1).2.2 x18_2)
      obtain rfl : ad773 = ad775 := (by injection e775)
      refine start_ (n := 41) (S := fun w' => w'.cell? (ad773.add ((ji47)).toNat) = some (.int .i64 (rd t742 (ji47))) ∧ w'.cell? (ad773.add (x18_2).toNat) = some (.int .i64 (rd t742 x18_2)) ∧ w'.cell? (ad773.add (x18_2).toNat) = some (.int .i64 (rd t742 x18_2))) (ds := []) zq18_0 (by kernel_rfl) rfl rfl ⟨hx773_0, hx774_0, hx775_0⟩ (fun hHeld => ?_); refine with_tabW laws_FnFinals.tab12 laws_FnFinals.bits12 (fun HT_ HW_ => ?_)
      generalize wr.drew = w67 at HO_3 HO_4 HO_7 HO_8 HO_9 HB hx773_0 hx774_0 hx775_0 hHeld ⊢
      refine zPu 0 ?_
      refine zPu 1 ?_
      refine zPu 2 ?_
      refine zPu 3 ?_
      refine zPu 4 ?_
      refine zPu 5 ?_
      refine zPu 6 ?_
      refine zPu 8 ?_
      refine zPu 9 ?_
      refine zPu 10 ?_
      refine zTk3 7 hHeld ?_
      refine zTk3 11 hHeld ?_
      refine zPu 12 ?_
      refine zPu 13 ?_
      refine zPu 14 ?_
      refine zPu 15 ?_
      refine zPu 16 ?_
      refine zPu 17 ?_
      refine zPu 18 ?_
      refine zPu 19 ?_
      refine zPu 20 ?_
      refine zPu 21 ?_
      refine zTk3 22 hHeld ?_
      refine zOn 23 (some 116) fun K hK => ?_
      refine zGs Try.func19 #[.slice Ao10 t734.length co10, .slice Ao11 t737.length co11, .int .i64 t740, .int .i64 t741, .int .i64 (rd t742 x18_2)] ?_
      with_reducible refine (impl_Ever.calls k2 _ _ t734 _ _ t737 t740 t741 (rd t742 x18_2) false _ ?side1 ?side2 ?side3 ?side4 A54.1).mono ?_
      (case side1 => exact zC (Kd.R_reads' HO_3.1).2.2)
      (case side2 => exact (Kd.R_reads' HO_3.1).2.1)
      (case side3 => exact zC (Kd.N_reads' HO_4.1).2.2)
      (case side4 => exact (Kd.N_reads' HO_4.1).2.1)
      rintro e w68 ⟨rfl, hb⟩
      refine ⟨_, rfl, ?_⟩
      replace HO_3 := zM (Kd.R_below (zR HO_3.1) hb)
      replace HO_4 := zM (Kd.N_below (by refine zrN ?_; exact HO_4.1) hb)
      replace HO_7 := zM (Kd.R_below (zR HO_7.1) hb)
      replace HO_8 := zM (Kd.R_below (zR HO_8.1) hb)
      replace HO_9 := zM (Kd.N_below (by refine zrN ?_; exact HO_9.1) hb)
      replace HB := zM (below_step zB0 hb)
      refine hK.out _ _ zCs fun hHeld => ?_
      clear hK K
      refine zNo ?_
      refine zPu 24 ?_
      refine zPu 25 ?_
      refine zPu 26 ?_
      refine zPn 27 ?_
      refine zPn 28 ?_
      refine zPn 29 ?_
      refine zPn 30 ?_
      refine zPn 31 ?_
      refine zPn 32 ?_
      refine zPn 33 ?_
      refine zPn 34 ?_
      refine zPn 35 ?_
      refine zPn 36 ?_
      refine zPn 37 ?_
      refine zPn 38 ?_
      refine zPn 39 ?_
      refine zPu 40 ?_
      refine done_ (done_of HT_.1 (by kernel_rfl)) ?_
      try go_wp2
      go_ret
      exact ⟨by first | rfl | (simp [errW_none, errW_some] <;> rfl) | (simp only [← hji47]; first | rfl | (simp [errW_none, errW_some] <;> rfl)) | (simp [*, errW_none, errW_some] <;> rfl), zB0⟩
     subst c55
     rw [if_pos rfl] at H
     replace H := zO H
     obtain ⟨t778, A56, H⟩ := H
     by_cases c57 : (t778 != ((t742.length : Int) == 1)) = true
     ·rw [if_pos c57] at H
      have c57b0 : (t778 != ((t742.length : Int) == 1)) = true := c57
      (try (have c57b1 : decide (t778 = ((t742.length : Int) == 1)) = false := by simpa using c57))
      (try (have c57b2 : (t778 == ((t742.length : Int) == 1)) = false := by simpa using c57))
      (try (have c57b3 : ¬ (t778 = ((t742.length : Int) == 1)) := by simpa using c57))
      clear c57
      obtain rfl := Option.some.inj H
      obtain ⟨Ao58, co58, eo58⟩ := Kd.R_slice HO_7.1
      subst eo58
      try go_wp2
      replace HO_3 := zM (Kd.R_drew HO_3.1)
      replace HO_4 := zM (Kd.N_drew HO_4.1)
      replace HO_7 := zM (Kd.R_drew HO_7.1)
      replace HO_8 := zM (Kd.R_drew HO_8.1)
      replace HO_9 := zM (Kd.N_drew HO_9.1)
      replace HB := zM (below_drew1 HB.1)
      obtain ⟨p773, q773, ad773, e773, hx773_0⟩ := zRd (Kd.at_int (Kd.R_reads' HO_7.1).2.2 (ji47))
      cases e773
      obtain ⟨p774, q774, ad774, e774, hx774_0⟩ := zRd (Kd.at_int (Kd.R_reads' HO_7.1).2.2 x18_2)
      obtain rfl : ad773 = ad774 := (by injection e774)
      obtain ⟨p775, q775, ad775, e775, hx775_0⟩ := zRd (Kd.at_int (Kd.R_reads' HO_7.1).2.2 x18_2)
      obtain rfl : ad773 = ad775 := (by injection e775)
      obtain ⟨p777, q777, ad777, e777, hx777_0⟩ := zRd (Kd.at_int (Kd.R_reads' HO_7.1).2.2 x18_2)
      obtain rfl : ad773 = ad777 := (by injection e777)
      refine start_ (n := 41) (S := fun w' => w'.cell? (ad773.add ((ji47)).toNat) = some (.int .i64 (rd t742 (ji47))) ∧ w'.cell? (ad773.add (x18_2).toNat) = some (.int .i64 (rd t742 x18_2)) ∧ w'.cell? (ad773.add (x18_2).toNat) = some (.int .i64 (rd t742 x18_2)) ∧ w'.cell? (ad773.add (x18_2).toNat) = some (.int .i64 (rd t742 x18_2))) (ds := []) zq18_0 (by kernel_rfl) rfl rfl ⟨hx773_0, hx774_0, hx775_0, hx777_0⟩ (fun hHeld => ?_); refine with_tabW laws_FnFinals.tab12 laws_FnFinals.bits12 (fun HT_ HW_ => ?_)
      generalize wr.drew = w59 at HO_3 HO_4 HO_7 HO_8 HO_9 HB hx773_0 hx774_0 hx775_0 hx777_0 hHeld ⊢
      refine zPu 0 ?_
      refine zPu 1 ?_
      refine zPu 2 ?_
      refine zPu 3 ?_
      refine zPu 4 ?_
      refine zPu 5 ?_
      refine zPu 6 ?_
      refine zPu 8 ?_
      refine zPu 9 ?_
      refine zPu 10 ?_
      refine zTk4 7 hHeld ?_
      refine zTk4 11 hHeld ?_
      refine zPu 12 ?_
      refine zPu 13 ?_
      refine zPu 14 ?_
      refine zPu 15 ?_
      refine zPu 16 ?_
      refine zPu 17 ?_
      refine zPu 18 ?_
      refine zPu 19 ?_
      refine zPu 20 ?_
      refine zPu 21 ?_
      refine zTk4 22 hHeld ?_
      refine zOn 23 (some 116) fun K hK => ?_
      refine zGs Try.func19 #[.slice Ao10 t734.length co10, .slice Ao11 t737.length co11, .int .i64 t740, .int .i64 t741, .int .i64 (rd t742 x18_2)] ?_
      with_reducible refine (impl_Ever.calls k2 _ _ t734 _ _ t737 t740 t741 (rd t742 x18_2) true _ ?side1 ?side2 ?side3 ?side4 A54.1).mono ?_
      (case side1 => exact zC (Kd.R_reads' HO_3.1).2.2)
      (case side2 => exact (Kd.R_reads' HO_3.1).2.1)
      (case side3 => exact zC (Kd.N_reads' HO_4.1).2.2)
      (case side4 => exact (Kd.N_reads' HO_4.1).2.1)
      rintro e w60 ⟨rfl, hb⟩
      refine ⟨_, rfl, ?_⟩
      replace HO_3 := zM (Kd.R_below (zR HO_3.1) hb)
      replace HO_4 := zM (Kd.N_below (by refine zrN ?_; exact HO_4.1) hb)
      replace HO_7 := zM (Kd.R_below (zR HO_7.1) hb)
      replace HO_8 := zM (Kd.R_below (zR HO_8.1) hb)
      replace HO_9 := zM (Kd.N_below (by refine zrN ?_; exact HO_9.1) hb)
      replace HB := zM (below_step zB0 hb)
      refine hK.out _ _ zCs fun hHeld => ?_
      clear hK K
      refine zNo ?_
      refine zPu 24 ?_
      refine zPu 25 ?_
      refine zPu 26 ?_
      refine zPu 27 ?_
      refine zPu 28 ?_
      refine zPu 29 ?_
      refine zPu 30 ?_
      refine zPu 31 ?_
      refine zPu 32 ?_
      refine zPu 33 ?_
      refine zPu 36 ?_
      refine zPu 37 ?_
      refine zPu 38 ?_
      refine zTk4 34 hHeld ?_
      refine zOn 35 (some 128) fun K hK => ?_
      refine zGs Try.func15 #[.slice Ao10 t734.length co10, .slice Ao11 t737.length co11, .int .i64 t740, .int .i64 t741, .int .i64 (rd t742 x18_2)] ?_
      with_reducible refine (impl_Always.calls k2 _ _ t734 _ _ t737 t740 t741 (rd t742 x18_2) t778 _ ?side1 ?side2 ?side3 ?side4 A56.1).mono ?_
      (case side1 => exact zC (Kd.R_reads' HO_3.1).2.2)
      (case side2 => exact (Kd.R_reads' HO_3.1).2.1)
      (case side3 => exact zC (Kd.N_reads' HO_4.1).2.2)
      (case side4 => exact (Kd.N_reads' HO_4.1).2.1)
      rintro e w61 ⟨rfl, hb⟩
      refine ⟨_, rfl, ?_⟩
      replace HO_3 := zM (Kd.R_below (zR HO_3.1) hb)
      replace HO_4 := zM (Kd.N_below (by refine zrN ?_; exact HO_4.1) hb)
      replace HO_7 := zM (Kd.R_below (zR HO_7.1) hb)
      replace HO_8 := zM (Kd.R_below (zR HO_8.1) hb)
      replace HO_9 := zM (Kd.N_below (by refine zrN ?_; exact HO_9.1) hb)
      replace HB := zM (below_step zB0 hb)
      refine hK.out _ _ zCs fun hHeld => ?_
      clear hK K
      refine zNo ?_
      refine zPu 39 ?_
      refine zPu 40 ?_
      refine done_ (done_of HT_.1 (by kernel_rfl)) ?_
      try go_wp2
      go_ret
      exact ⟨by first | rfl | (simp [errW_none, errW_some] <;> rfl) | (simp only [← hji47]; first | rfl | (simp [errW_none, errW_some] <;> rfl)) | (simp [*, errW_none, errW_some] <;> rfl), zB0⟩
     rw [if_neg c57] at H
     have c57b0 : (t778 != ((t742.length : Int) == 1)) = false := by simpa using c57
     (try (have c57b1 : decide (t778 = ((t742.length : Int) == 1)) = true := by simpa using c57))
     (try (have c57b2 : (t778 == ((t742.length : Int) == 1)) = true := by simpa using c57))
     clear c57
     have H' := zM H
     clear H
     obtain ⟨Ao62, co62, eo62⟩ := Kd.R_slice HO_7.1
     subst eo62
     try go_wp2
     replace HO_3 := zM (Kd.R_drew HO_3.1)
     replace HO_4 := zM (Kd.N_drew HO_4.1)
     replace HO_7 := zM (Kd.R_drew HO_7.1)
     replace HO_8 := zM (Kd.R_drew HO_8.1)
     replace HO_9 := zM (Kd.N_drew HO_9.1)
     replace HB := zM (below_drew1 HB.1)
     obtain ⟨p773, q773, ad773, e773, hx773_0⟩ := zRd (Kd.at_int (Kd.R_reads' HO_7.1).2.2 (ji47))
     cases e773
     obtain ⟨p774, q774, ad774, e774, hx774_0⟩ := zRd (Kd.at_int (Kd.R_reads' HO_7.1).2.2 x18_2)
     obtain rfl : ad773 = ad774 := (by injection e774)
     obtain ⟨p775, q775, ad775, e775, hx775_0⟩ := zRd (Kd.at_int (Kd.R_reads' HO_7.1).2.2 x18_2)
     obtain rfl : ad773 = ad775 := (by injection e775)
     obtain ⟨p777, q777, ad777, e777, hx777_0⟩ := zRd (Kd.at_int (Kd.R_reads' HO_7.1).2.2 x18_2)
     obtain rfl : ad773 = ad777 := (by injection e777)
     refine start_ (n := 41) (S := fun w' => w'.cell? (ad773.add ((ji47)).toNat) = some (.int .i64 (rd t742 (ji47))) ∧ w'.cell? (ad773.add (x18_2).toNat) = some (.int .i64 (rd t742 x18_2)) ∧ w'.cell? (ad773.add (x18_2).toNat) = some (.int .i64 (rd t742 x18_2)) ∧ w'.cell? (ad773.add (x18_2).toNat) = some (.int .i64 (rd t742 x18_2))) (ds := []) zq18_0 (by kernel_rfl) rfl rfl ⟨hx773_0, hx774_0, hx775_0, hx777_0⟩ (fun hHeld => ?_); refine with_tabW laws_FnFinals.tab12 laws_FnFinals.bits12 (fun HT_ HW_ => ?_)
     generalize wr.drew = w63 at HO_3 HO_4 HO_7 HO_8 HO_9 HB hx773_0 hx774_0 hx775_0 hx777_0 hHeld ⊢
     refine zPu 0 ?_
     refine zPu 1 ?_
     refine zPu 2 ?_
     refine zPu 3 ?_
     refine zPu 4 ?_
     refine zPu 5 ?_
     refine zPu 6 ?_
     refine zPu 8 ?_
     refine zPu 9 ?_
     refine zPu 10 ?_
     refine zTk4 7 hHeld ?_
     refine zTk4 11 hHeld ?_
     refine zPu 12 ?_
     refine zPu 13 ?_
     refine zPu 14 ?_
     refine zPu 15 ?_
     refine zPu 16 ?_
     refine zPu 17 ?_
     refine zPu 18 ?_
     refine zPu 19 ?_
     refine zPu 20 ?_
     refine zPu 21 ?_
     refine zTk4 22 hHeld ?_
     refine zOn 23 (some 116) fun K hK => ?_
     refine zGs Try.func19 #[.slice Ao10 t734.length co10, .slice Ao11 t737.length co11, .int .i64 t740, .int .i64 t741, .int .i64 (rd t742 x18_2)] ?_
     with_reducible refine (impl_Ever.calls k2 _ _ t734 _ _ t737 t740 t741 (rd t742 x18_2) true _ ?side1 ?side2 ?side3 ?side4 A54.1).mono ?_
     (case side1 => exact zC (Kd.R_reads' HO_3.1).2.2)
     (case side2 => exact (Kd.R_reads' HO_3.1).2.1)
     (case side3 => exact zC (Kd.N_reads' HO_4.1).2.2)
     (case side4 => exact (Kd.N_reads' HO_4.1).2.1)
     rintro e w64 ⟨rfl, hb⟩
     refine ⟨_, rfl, ?_⟩
     replace HO_3 := zM (Kd.R_below (zR HO_3.1) hb)
     replace HO_4 := zM (Kd.N_below (by refine zrN ?_; exact HO_4.1) hb)
     replace HO_7 := zM (Kd.R_below (zR HO_7.1) hb)
     replace HO_8 := zM (Kd.R_below (zR HO_8.1) hb)
     replace HO_9 := zM (Kd.N_below (by refine zrN ?_; exact HO_9.1) hb)
     replace HB := zM (below_step zB0 hb)
     refine hK.out _ _ zCs fun hHeld => ?_
     clear hK K
     refine zNo ?_
     refine zPu 24 ?_
     refine zPu 25 ?_
     refine zPu 26 ?_
     refine zPu 27 ?_
     refine zPu 28 ?_
     refine zPu 29 ?_
     refine zPu 30 ?_
     refine zPu 31 ?_
     refine zPu 32 ?_
     refine zPu 33 ?_
     refine zPu 36 ?_
     refine zPu 37 ?_
     refine zPu 38 ?_
     refine zTk4 34 hHeld ?_
     refine zOn 35 (some 128) fun K hK => ?_
     refine zGs Try.func15 #[.slice Ao10 t734.length co10, .slice Ao11 t737.length co11, .int .i64 t740, .int .i64 t741, .int .i64 (rd t742 x18_2)] ?_
     with_reducible refine (impl_Always.calls k2 _ _ t734 _ _ t737 t740 t741 (rd t742 x18_2) t778 _ ?side1 ?side2 ?side3 ?side4 A56.1).mono ?_
     (case side1 => exact zC (Kd.R_reads' HO_3.1).2.2)
     (case side2 => exact (Kd.R_reads' HO_3.1).2.1)
     (case side3 => exact zC (Kd.N_reads' HO_4.1).2.2)
     (case side4 => exact (Kd.N_reads' HO_4.1).2.1)
     rintro e w65 ⟨rfl, hb⟩
     refine ⟨_, rfl, ?_⟩
     replace HO_3 := zM (Kd.R_below (zR HO_3.1) hb)
     replace HO_4 := zM (Kd.N_below (by refine zrN ?_; exact HO_4.1) hb)
     replace HO_7 := zM (Kd.R_below (zR HO_7.1) hb)
     replace HO_8 := zM (Kd.R_below (zR HO_8.1) hb)
     replace HO_9 := zM (Kd.N_below (by refine zrN ?_; exact HO_9.1) hb)
     replace HB := zM (below_step zB0 hb)
     refine hK.out _ _ zCs fun hHeld => ?_
     clear hK K
     refine zNo ?_
     refine zPu 39 ?_
     refine zPu 40 ?_
     refine done_ (done_of HT_.1 (by kernel_rfl)) ?_
     try go_wp2
     go_roundg k2
     case measure => have := HJ7.1; have := HK2.1; omega
     case rel => exact ⟨(wrap64 (x18_2 + 1)), zJJ, H', ⟨by have := HJ7.1; have := HK2.1; omega⟩, ⟨zR HO_3.1⟩, ⟨by refine zrN ?_; exact HO_4.1⟩, ⟨zR HO_7.1⟩, ⟨zR HO_8.1⟩, ⟨by refine zrN ?_; exact HO_9.1⟩, ⟨zB0⟩⟩

/-- THE ONE PURE STATEMENT of laws_FnFinals: yours. -/
def laws_FnFinals.Pure : Prop := ∀ (l0 : List Int), l0.length ≤ maxLen → l0.length * 1 ≤ 140737488351232 → (∀ x ∈ l0, (Lit.int .u8 x).wf = true) → ∃ k, laws_FnFinals.f k l0 = some true
theorem laws_FnFinals.walk (P : laws_FnFinals.Pure) (a0 : Option Addr) (len0 cap0 : Nat) (z0 : List Int) (w : World) (w0 : (a0 = none ∧ len0 = 0 ∧ cap0 = 0 ∧ z0 = []) ∨ ∃ x, a0 = some x ∧ len0 ≤ cap0 ∧ cap0 ≤ maxLen ∧ z0.length = cap0 ∧ (∀ i, i < z0.length → w.cell? (x.add i) = some (.int .u8 (z0.getD i 0))) ∧ ∀ n ∈ z0, (Lit.int .u8 n).wf = true) (y0 : len0 * 1 ≤ 140737488351232) :
  Calls Try.prog 9 #[.slice a0 len0 cap0] w fun e w' => e = .returned (.bool true) ∧ Below w.heap.size w w' := by
 obtain ⟨l0, rfl, hr0, hm0, hw0, hc0⟩ := ReadsInt.ofRowC w0
 obtain ⟨k, h⟩ := P l0 hm0 y0 hw0
 refine (laws_FnFinals.calls k _ _ l0 true w (Kd.C_of_reads (d := (0 : Int)) (h1 := fun _ => rfl) hr0) hc0 h).mono ?_
 rintro e w' ⟨rfl, hd⟩
 exact ⟨rfl, hd⟩

end Go.Proofs.Ytnjdepmlpdjghaa.PFnFinals
