-- made by wip/tools/myprint.py out of the seat's translation
import Derived.Test.YtaakcbgpmabaaaaDoorPFnStoriesx0
import Derived.Test.YtaakcbgpmabaaaaDoorPFnStoriesx1
import Derived.Test.YtaakcbgpmabaaaaDoorPFnStoriesx2
import Derived.Test.YtaakcbgpmabaaaaDoorPFnStoriesx9
import Derived.Test.YtaakcbgpmabaaaaDoorPFnStoriesx10
import Derived.Test.YtaakcbgpmabaaaaDoorPFnStoriesx11
import Derived.Test.YtaakcbgpmabaaaaDoorPFnStoriesx12
import Derived.Test.YtaakcbgpmabaaaaDoorPFnStoriesx14
import Derived.Test.YtaakcbgpmabaaaaDoorPFnStoriesx16
import Derived.Test.YtaakcbgpmabaaaaDoorPFnStoriesx17
namespace Go.Proofs.YtaakcbgpmabaaaaDoor.PFnStories
open Go.RowKit Go.Proofs.YtaakcbgpmabaaaaDoorW.PrintWords Go.Proofs.YtaakcbgpmabaaaaDoorW.PrintLast Go.Proofs.YtaakcbgpmabaaaaDoorW.PrintMore
attribute [local go_sem] max2_int min2_int max_two min_two max_three min_three max_four min_four   -- for this text's walks alone
set_option linter.unusedVariables false
set_option linter.unusedSimpArgs false
set_option maxHeartbeats 8000000
set_option maxRecDepth 100000

attribute [local go_sem high] eqA31
/-! ### laws_FnStories: function 3 -/
mutual
def laws_FnStories.j0 : Nat → List (S31) → ByteArray → Bool → Option (Bool)
 | 0, _, _, _ => none
 | k + 1, x3, x4, x90 => if x90 = true then (some false) else (laws_FnStories.l0 k x3 x4 0)
def laws_FnStories.l0 : Nat → List (S31) → ByteArray → Int → Option (Bool)
 | 0, _, _, _ => none
 | k + 1, x3, x4, x15 => if x15 < (x3.length : Int) then (if 0 ≤ x15 then (if ((rd_T31 x3 x15).f0) < 0 then (some true) else (if ((rd_T31 x3 x15).f0) > 99 then (some true) else (laws_FnStories.l0 k x3 x4 (wrap64 (x15 + 1))))) else (none)) else ((impl_TraceRead.f k x4).bind fun bt796 => (if (x3.length : Int) > 60 then (some true) else (if bt796.2 = true then ((laws_sameEvents.f k bt796.1 x3).bind fun t800 => (some t800)) else (some false))))
end
def laws_FnStories.f (k : Nat) (l0 : List Int) : Option (Bool) := (laws_big.f l0).bind fun t760 => (if t760 = true then (some true) else ((spec_DrawTraceText.f k l0).bind fun t761 => ((impl_TraceText.f k t761).bind fun t764 => ((spec_DrawTraceRead.f k l0).bind fun t765 => ((impl_TraceRead.f k t765).bind fun bt766 => ((spec_TraceRead.f k t765).bind fun bt770 => ((spec_DrawEventRead.f k l0).bind fun t774 => ((impl_EventRead.f k t774).bind fun bt775 => ((spec_EventRead.f k t774).bind fun bt782 => ((spec_TraceText.f k t761).bind fun t789 => (if t764.toList = t789.toList then (if (bt766.2 != bt770.2) = true then (laws_FnStories.j0 k t761 t764 true) else ((laws_sameEvents.f k bt766.1 bt770.1).bind fun t790 => (if t790 = true then (if (!(bt775.1 == bt782.1) || (!(bt775.2.1 == bt782.2.1) || (!(bt775.2.2.1 == bt782.2.2.1) || (!(bt775.2.2.2.1 == bt782.2.2.2.1) || (!(bt775.2.2.2.2.1 == bt782.2.2.2.2.1)))))) = true then (laws_FnStories.j0 k t761 t764 true) else (if (bt775.2.2.2.2.2 != bt782.2.2.2.2.2) = true then (laws_FnStories.j0 k t761 t764 true) else (if bt766.2 = true then ((impl_TraceText.f k bt766.1).bind fun t791 => (if t791.toList = t765.toList then (if bt775.2.2.2.2.2 = true then ((impl_EventText.f k bt775.1 bt775.2.1 bt775.2.2.1 bt775.2.2.2.1 bt775.2.2.2.2.1).bind fun t792 => (laws_FnStories.j0 k t761 t764 (t792.toList != t774.toList))) else (laws_FnStories.j0 k t761 t764 false)) else (laws_FnStories.j0 k t761 t764 true))) else (if bt775.2.2.2.2.2 = true then ((impl_EventText.f k bt775.1 bt775.2.1 bt775.2.2.1 bt775.2.2.2.1 bt775.2.2.2.2.1).bind fun t793 => (laws_FnStories.j0 k t761 t764 (t793.toList != t774.toList))) else (laws_FnStories.j0 k t761 t764 false))))) else (laws_FnStories.j0 k t761 t764 true)))) else (laws_FnStories.j0 k t761 t764 true))))))))))))
theorem laws_FnStories.mono_l : ∀ k, (∀ y0 y1 y2, LeO (laws_FnStories.j0 k y0 y1 y2) (laws_FnStories.j0 (k + 1) y0 y1 y2)) ∧ (∀ y0 y1 y2, LeO (laws_FnStories.l0 k y0 y1 y2) (laws_FnStories.l0 (k + 1) y0 y1 y2))
 | 0 => ⟨fun _ _ _ r h => by simp [laws_FnStories.j0] at h, fun _ _ _ r h => by simp [laws_FnStories.l0] at h⟩
 | k + 1 => by
  obtain ⟨ih0, ih1⟩ := laws_FnStories.mono_l k
  refine ⟨?_, ?_⟩
  ·intros
   unfold laws_FnStories.j0
   have mo0 := @impl_EventRead.mono
   have mo1 := @impl_EventText.mono
   have mo2 := @impl_TraceRead.mono
   have mo3 := @impl_TraceText.mono
   have mo4 := @laws_sameEvents.mono
   have mo5 := @spec_DrawEventRead.mono
   have mo6 := @spec_DrawTraceRead.mono
   have mo7 := @spec_DrawTraceText.mono
   have mo8 := @spec_EventRead.mono
   have mo9 := @spec_TraceRead.mono
   have mo10 := @spec_TraceText.mono
   exact zL
  ·intros
   unfold laws_FnStories.l0
   have mo0 := @impl_EventRead.mono
   have mo1 := @impl_EventText.mono
   have mo2 := @impl_TraceRead.mono
   have mo3 := @impl_TraceText.mono
   have mo4 := @laws_sameEvents.mono
   have mo5 := @spec_DrawEventRead.mono
   have mo6 := @spec_DrawTraceRead.mono
   have mo7 := @spec_DrawTraceText.mono
   have mo8 := @spec_EventRead.mono
   have mo9 := @spec_TraceRead.mono
   have mo10 := @spec_TraceText.mono
   exact zL
theorem laws_FnStories.mono : ∀ a0 k, LeO (laws_FnStories.f k a0) (laws_FnStories.f (k + 1) a0) := by
 intro a0 k
 obtain ⟨ih0, ih1⟩ := laws_FnStories.mono_l k
 unfold laws_FnStories.f
 have mo0 := @impl_EventRead.mono
 have mo1 := @impl_EventText.mono
 have mo2 := @impl_TraceRead.mono
 have mo3 := @impl_TraceText.mono
 have mo4 := @laws_sameEvents.mono
 have mo5 := @spec_DrawEventRead.mono
 have mo6 := @spec_DrawTraceRead.mono
 have mo7 := @spec_DrawTraceText.mono
 have mo8 := @spec_EventRead.mono
 have mo9 := @spec_TraceRead.mono
 have mo10 := @spec_TraceText.mono
 exact zL
theorem laws_FnStories.calls (k : Nat) (A0 : Option Addr) (c0 : Nat) (l0 : List Int) (r : Bool) (w : World) (hr0 : Kd.C (Kd.int .u8) w A0 l0.length l0) (hc0 : l0.length ≤ c0) (h : laws_FnStories.f k l0 = some r) :
  Calls Tryd.prog 3 #[.slice A0 l0.length c0] w fun e w' => e = .returned (.bool r) ∧ Below w.heap.size w w' := by
 have hu31 := Tryd.underlying31
 have HR0 := zM hr0
 have HC0 := zM hc0
 clear hr0 hc0
 have HB := zM (Below.refl w.heap.size w)
 unfold laws_FnStories.f at h
 have H := h
 clear h
 replace H := zO H
 obtain ⟨t760, A2, H⟩ := H
 by_cases c3 : t760 = true
 ·subst c3
  rw [if_pos rfl] at H
  obtain rfl := Option.some.inj H
  go_enter Tryd.func3, Tryd.ntmps3
  go_wp2_with (first | ((with_reducible refine gate_callee (f := 4) rfl ?_); refine goesL_ (some 19) rfl rfl Tryd.func4 (by kernel_rfl) rfl #[.slice A0 l0.length c0] rfl zT ?_; (with_reducible refine (laws_big.calls _ _ l0 true _ ?side1 ?side2 A2.1).mono ?_); (case side1 => exact zC HR0.1); (case side2 => exact HC0.1); rintro e w' ⟨rfl, ⟨nd, rfl⟩⟩; refine ⟨_, rfl, ?_⟩))
  go_ret
  exact ⟨zE, zB3⟩
 replace c3 := Bool.eq_false_iff.mpr c3
 subst c3
 rw [if_neg zF] at H
 replace H := zO H
 obtain ⟨t761, A4, H⟩ := H
 replace H := zO H
 obtain ⟨t764, A5, H⟩ := H
 replace H := zO H
 obtain ⟨t765, A6, H⟩ := H
 replace H := zO H
 obtain ⟨⟨t766, t767⟩, A7, H⟩ := H
 try dsimp only at H
 replace H := zO H
 obtain ⟨⟨t770, t771⟩, A8, H⟩ := H
 try dsimp only at H
 replace H := zO H
 obtain ⟨t774, A9, H⟩ := H
 replace H := zO H
 obtain ⟨⟨t775, t776, t777, t778, t779, t780⟩, A10, H⟩ := H
 try dsimp only at H
 replace H := zO H
 obtain ⟨⟨t782, t783, t784, t785, t786, t787⟩, A11, H⟩ := H
 try dsimp only at H
 have HC12 := zM H
 clear H
 go_enter Tryd.func3, Tryd.ntmps3
 go_upto_region 11 with (first | ((with_reducible refine gate_callee (f := 4) rfl ?_); refine goesL_ (some 19) rfl rfl Tryd.func4 (by kernel_rfl) rfl #[.slice A0 l0.length c0] rfl zT ?_; (with_reducible refine (laws_big.calls _ _ l0 false _ ?side1 ?side2 A2.1).mono ?_); (case side1 => exact zC HR0.1); (case side2 => exact HC0.1); rintro e w' ⟨rfl, ⟨nd, rfl⟩⟩; refine ⟨_, rfl, ?_⟩) | ((with_reducible refine gate_callee (f := 5) rfl ?_); refine goesL_ (some 21) rfl rfl Tryd.func5 (by kernel_rfl) rfl #[.slice A0 l0.length c0] rfl zT ?_; (with_reducible refine (spec_DrawTraceText.calls k _ _ l0 t761 _ ?side1 ?side2 A4.1).mono ?_); (case side1 => exact zC HR0.1); (case side2 => exact HC0.1); rintro e w13 ⟨v762, rfl, ho0, hb⟩; refine ⟨_, rfl, ?_⟩; have HO763 := zM (Kd.R_lower ho0 (below_size zB3)); replace HB := zM (below_step zB3 hb); clear hb ho0; obtain ⟨Ao14, co14, eo14⟩ := Kd.R_slice HO763.1; subst eo14) | ((with_reducible refine gate_callee (f := 6) rfl ?_); refine goesL_ (some 23) rfl rfl Tryd.func6 (by kernel_rfl) rfl #[.slice Ao14 t761.length co14] rfl zT ?_; (with_reducible refine (impl_TraceText.calls k _ _ t761 t764 _ ?side1 ?side2 A5.1).mono ?_); (case side1 => exact zC (Kd.R_reads' HO763.1).2.2); (case side2 => exact (Kd.R_reads' HO763.1).2.1); rintro e w15 ⟨rfl, hb⟩; refine ⟨_, rfl, ?_⟩; replace HO763 := zM (Kd.R_below (zR HO763.1) hb); replace HB := zM (below_step zB3 hb); clear hb) | ((with_reducible refine gate_callee (f := 7) rfl ?_); refine goesL_ (some 25) rfl rfl Tryd.func7 (by kernel_rfl) rfl #[.slice A0 l0.length c0] rfl zT ?_; (with_reducible refine (spec_DrawTraceRead.calls k _ _ l0 t765 _ ?side1 ?side2 A6.1).mono ?_); (case side1 => exact zC (Kd.C_below HR0.1 HB.1)); (case side2 => exact HC0.1); rintro e w16 ⟨rfl, hb⟩; refine ⟨_, rfl, ?_⟩; replace HO763 := zM (Kd.R_below (zR HO763.1) hb); replace HB := zM (below_step zB3 hb); clear hb) | ((with_reducible refine gate_callee (f := 8) rfl ?_); refine goesL_ (some 28) rfl rfl Tryd.func8 (by kernel_rfl) rfl #[.string t765] rfl zT ?_; (with_reducible refine (impl_TraceRead.calls k t765 t766 t767 _ A7.1).mono ?_); rintro e w17 ⟨v768, rfl, ho0, hb⟩; refine ⟨_, rfl, ?_⟩; have HO769 := zM (Kd.R_lower (Kd.R_new' ho0 (Kd.R_lt (zR HO763.1))) (below_size zB3)); replace HO763 := zM (Kd.R_elder' (zR HO763.1) (Kd.R_base ho0) hb); replace HB := zM (below_step zB3 hb); clear hb ho0) | ((with_reducible refine gate_callee (f := 9) rfl ?_); refine goesL_ (some 33) rfl rfl Tryd.func9 (by kernel_rfl) rfl #[.string t765] rfl zT ?_; (with_reducible refine (spec_TraceRead.calls k t765 t770 t771 _ A8.1).mono ?_); rintro e w18 ⟨v772, rfl, ho0, hb⟩; refine ⟨_, rfl, ?_⟩; have HO773 := zM (Kd.R_lower (Kd.R_new' (Kd.R_new' ho0 (Kd.R_lt (zR HO763.1))) (Kd.R_lt (zR HO769.1))) (below_size zB3)); replace HO763 := zM (Kd.R_elder' (zR HO763.1) (Kd.R_base ho0) hb); replace HO769 := zM (Kd.R_elder' (zR HO769.1) (Kd.R_base ho0) hb); replace HB := zM (below_step zB3 hb); clear hb ho0) | ((with_reducible refine gate_callee (f := 10) rfl ?_); refine goesL_ (some 37) rfl rfl Tryd.func10 (by kernel_rfl) rfl #[.slice A0 l0.length c0] rfl zT ?_; (with_reducible refine (spec_DrawEventRead.calls k _ _ l0 t774 _ ?side1 ?side2 A9.1).mono ?_); (case side1 => exact zC (Kd.C_below HR0.1 HB.1)); (case side2 => exact HC0.1); rintro e w19 ⟨rfl, hb⟩; refine ⟨_, rfl, ?_⟩; replace HO763 := zM (Kd.R_below (zR HO763.1) hb); replace HO769 := zM (Kd.R_below (zR HO769.1) hb); replace HO773 := zM (Kd.R_below (zR HO773.1) hb); replace HB := zM (below_step zB3 hb); clear hb) | ((with_reducible refine gate_callee (f := 11) rfl ?_); refine goesL_ (some 40) rfl rfl Tryd.func11 (by kernel_rfl) rfl #[.string t774] rfl zT ?_; (with_reducible refine (impl_EventRead.calls k t774 t775 t776 t777 t778 t779 t780 _ A10.1).mono ?_); rintro e w20 ⟨rfl, hb⟩; refine ⟨_, rfl, ?_⟩; replace HO763 := zM (Kd.R_below (zR HO763.1) hb); replace HO769 := zM (Kd.R_below (zR HO769.1) hb); replace HO773 := zM (Kd.R_below (zR HO773.1) hb); replace HB := zM (below_step zB3 hb); clear hb) | ((with_reducible refine zBx 11 31 #[.int .i64 0, .int .i64 0, .int .i64 0, .int .i64 0, .int .i64 0] ?_); intro gb781 hg w21 hbox hb; replace HO763 := zM (Kd.R_below (Kd.R_elderB (zR HO763.1) gb781 (Nat.le_of_eq hg.symm)) hb); replace HO769 := zM (Kd.R_below (Kd.R_elderB (zR HO769.1) gb781 (Nat.le_of_eq hg.symm)) hb); replace HO773 := zM (Kd.R_below (Kd.R_elderB (zR HO773.1) gb781 (Nat.le_of_eq hg.symm)) hb); have BK781 := zM hbox; have GW781 := zM (zW hg (below_size zB3)); have GE781 := zM (zW hg (below_size zB3)); replace HB := zM (below_step zB3 hb); clear hb hbox hg; have hcz22 := zc_5 (w := w21) BK781.1) | ((with_reducible refine gate_callee (f := 12) rfl ?_); refine goesL_ (some 45) rfl rfl Tryd.func12 (by kernel_rfl) rfl #[.string t774] rfl zT ?_; (with_reducible refine (spec_EventRead.calls k t774 t782 t783 t784 t785 t786 t787 _ A11.1).mono ?_); rintro e w23 ⟨rfl, hb⟩; refine ⟨_, rfl, ?_⟩; replace HO763 := zM (Kd.R_below (by refine zrR ?_; exact (Kd.R_mono (zfR (zfR (zfR (zfR (zfR (Kd.R_mono HO763.1 (fun k_ hk => (⟨hk, hk.2⟩ : _ ∧ k_ ≠ gb781)))))))) (fun _ h_ => h_.1))) hb); replace HO769 := zM (Kd.R_below (by refine zrR ?_; exact (Kd.R_mono (zfR (zfR (zfR (zfR (zfR (Kd.R_mono HO769.1 (fun k_ hk => (⟨hk, hk.2⟩ : _ ∧ k_ ≠ gb781)))))))) (fun _ h_ => h_.1))) hb); replace HO773 := zM (Kd.R_below (by refine zrR ?_; exact (Kd.R_mono (zfR (zfR (zfR (zfR (zfR (Kd.R_mono HO773.1 (fun k_ hk => (⟨hk, hk.2⟩ : _ ∧ k_ ≠ gb781)))))))) (fun _ h_ => h_.1))) hb); replace BK781 := zM (blk_below (g := gb781) (o := .cells #[.int .i64 t775, .int .i64 t776, .int .i64 t777, .int .i64 t778, .int .i64 t779] 31 (0, 0)) (by exact zp5 (zK BK781.1)) hb); replace HB := zM (below_step zB3 hb); clear hb) | ((with_reducible refine zBx 13 31 #[.int .i64 0, .int .i64 0, .int .i64 0, .int .i64 0, .int .i64 0] ?_); intro gb788 hg w24 hbox hb; replace HO763 := zM (Kd.R_below (Kd.R_elderB (zR HO763.1) gb788 (Nat.le_of_eq hg.symm)) hb); replace HO769 := zM (Kd.R_below (Kd.R_elderB (zR HO769.1) gb788 (Nat.le_of_eq hg.symm)) hb); replace HO773 := zM (Kd.R_below (Kd.R_elderB (zR HO773.1) gb788 (Nat.le_of_eq hg.symm)) hb); have BK788 := zM hbox; have GW788 := zM (zW hg (below_size zB3)); have GE788 := zM (zW hg (below_size zB3)); replace HB := zM (below_step zB3 hb); have NB781_788 := zM ((zn BK781.1 hg : gb781 ≠ gb788)); have NB788_781 := zM ((zm BK781.1 hg : gb788 ≠ gb781)); replace BK781 := zM (zb BK781.1 hb); clear hb hbox hg; have hnb25 := NB788_781.1; have hnc25 := NB781_788.1; have hcz26 := zc_5 (w := w24) BK788.1))
 (try simp only [Act.put, List.setIfInBounds_toArray, List.set_cons_zero, List.set_cons_succ])
 go_cut [90] (fun v90 wc => ∃ (kq : Nat) (x90_11 : Bool), v90 = .bool x90_11 ∧ Aside0 (laws_FnStories.j0 kq t761 t764 x90_11 = some r) ∧ Aside0 (kq ≤ k) ∧ Aside0 (Kd.R k31 31 wc w.heap.size (fun k_ => k_ ≠ gb781 ∧ k_ ≠ gb788) (.slice Ao14 t761.length co14) t761) ∧ Aside0 (wc.heap[gb781]? = some (.cells #[.int .i64 t775, .int .i64 t776, .int .i64 t777, .int .i64 t778, .int .i64 t779] 31 (0, 0))) ∧ Aside0 (wc.heap[gb788]? = some (.cells #[.int .i64 t782, .int .i64 t783, .int .i64 t784, .int .i64 t785, .int .i64 t786] 31 (0, 0))) ∧ Aside0 (Below w.heap.size w wc))
 case first =>
  have H := HC12.1
  clear HC12
  replace H := zO H
  obtain ⟨t789, A27, H⟩ := H
  by_cases c28 : t764.toList = t789.toList
  rotate_left
  ·rw [if_neg c28] at H
   have c28b0 : (t764.toList == t789.toList) = false := beq_eq_false_iff_ne.mpr c28
   have c28b1 : (t764.toList != t789.toList) = true := bne_iff_ne.mpr c28
   (first | rw [c28b0] | (simp only [i64_w, i32_w]; rw [c28b0]) | skip)
   have H' := zM H
   clear H
   go_wp2_with (first | ((with_reducible refine gate_callee (f := 13) rfl ?_); refine goesL_ (some 50) rfl rfl Tryd.func13 (by kernel_rfl) rfl #[.slice Ao14 t761.length co14] rfl zT ?_; (with_reducible refine (spec_TraceText.calls k _ _ t761 t789 _ ?side1 ?side2 A27.1).mono ?_); (case side1 => refine (Kd.R_reads' (e := 31) (base := w.heap.size) (ok := fun k_ => ((((True ∧ some k_ ≠ (v768 : Value).ownBlock) ∧ some k_ ≠ (v772 : Value).ownBlock) ∧ k_ ≠ gb781) ∧ k_ ≠ gb788)) (n := t761.length) (c := co14) ?_).2.2; exact (by refine zrR ?_; exact (Kd.R_mono (zfR (zfR (zfR (zfR (zfR (Kd.R_mono HO763.1 (fun k_ hk => (⟨hk, hk.2⟩ : _ ∧ k_ ≠ gb788)))))))) (fun _ h_ => h_.1)))); (case side2 => exact (Kd.R_reads' HO763.1).2.1); rintro e w93 ⟨rfl, hb⟩; refine ⟨_, rfl, ?_⟩; replace HO763 := zM (Kd.R_below (by refine zrR ?_; exact (Kd.R_mono (zfR (zfR (zfR (zfR (zfR (Kd.R_mono HO763.1 (fun k_ hk => (⟨hk, hk.2⟩ : _ ∧ k_ ≠ gb788)))))))) (fun _ h_ => h_.1))) hb); replace HO769 := zM (Kd.R_below (by refine zrR ?_; exact (Kd.R_mono (zfR (zfR (zfR (zfR (zfR (Kd.R_mono HO769.1 (fun k_ hk => (⟨hk, hk.2⟩ : _ ∧ k_ ≠ gb788)))))))) (fun _ h_ => h_.1))) hb); replace HO773 := zM (Kd.R_below (by refine zrR ?_; exact (Kd.R_mono (zfR (zfR (zfR (zfR (zfR (Kd.R_mono HO773.1 (fun k_ hk => (⟨hk, hk.2⟩ : _ ∧ k_ ≠ gb788)))))))) (fun _ h_ => h_.1))) hb); replace BK781 := zM (zf BK781.1 hb); replace BK788 := zM (blk_below (g := gb788) (o := .cells #[.int .i64 t782, .int .i64 t783, .int .i64 t784, .int .i64 t785, .int .i64 t786] 31 (0, 0)) (by exact zp5 (zK BK788.1)) hb); replace HB := zM (below_step zB3 hb); clear hb))
   go_meet
   case rel => exact ⟨_, (true), zJJ, H', ⟨by first | omega | exact Nat.le_refl _⟩, ⟨by refine zrR ?_; exact Kd.R_mono HO763.1 (fun _ hk => ⟨hk.1.2, hk.2⟩)⟩, ⟨zK BK781.1⟩, ⟨zK BK788.1⟩, ⟨zB3⟩⟩
  rw [if_pos c28] at H
  have c28b0 : (t764.toList == t789.toList) = true := beq_iff_eq.mpr c28
  have c28b1 : (t764.toList != t789.toList) = false := bne_eq_false_iff_eq.mpr c28
  clear c28
  (first | rw [c28b0] | (simp only [i64_w, i32_w]; rw [c28b0]) | skip)
  by_cases c29 : (t767 != t771) = true
  ·rw [if_pos c29] at H
   have c29b0 : (t767 != t771) = true := c29
   (try (have c29b1 : decide (t767 = t771) = false := by simpa using c29))
   (try (have c29b2 : (t767 == t771) = false := by simpa using c29))
   (try (have c29b3 : ¬ (t767 = t771) := by simpa using c29))
   clear c29
   have H' := zM H
   clear H
   go_wp2_with (first | ((with_reducible refine gate_callee (f := 13) rfl ?_); refine goesL_ (some 50) rfl rfl Tryd.func13 (by kernel_rfl) rfl #[.slice Ao14 t761.length co14] rfl zT ?_; (with_reducible refine (spec_TraceText.calls k _ _ t761 t789 _ ?side1 ?side2 A27.1).mono ?_); (case side1 => refine (Kd.R_reads' (e := 31) (base := w.heap.size) (ok := fun k_ => ((((True ∧ some k_ ≠ (v768 : Value).ownBlock) ∧ some k_ ≠ (v772 : Value).ownBlock) ∧ k_ ≠ gb781) ∧ k_ ≠ gb788)) (n := t761.length) (c := co14) ?_).2.2; exact (by refine zrR ?_; exact (Kd.R_mono (zfR (zfR (zfR (zfR (zfR (Kd.R_mono HO763.1 (fun k_ hk => (⟨hk, hk.2⟩ : _ ∧ k_ ≠ gb788)))))))) (fun _ h_ => h_.1)))); (case side2 => exact (Kd.R_reads' HO763.1).2.1); rintro e w30 ⟨rfl, hb⟩; refine ⟨_, rfl, ?_⟩; replace HO763 := zM (Kd.R_below (by refine zrR ?_; exact (Kd.R_mono (zfR (zfR (zfR (zfR (zfR (Kd.R_mono HO763.1 (fun k_ hk => (⟨hk, hk.2⟩ : _ ∧ k_ ≠ gb788)))))))) (fun _ h_ => h_.1))) hb); replace HO769 := zM (Kd.R_below (by refine zrR ?_; exact (Kd.R_mono (zfR (zfR (zfR (zfR (zfR (Kd.R_mono HO769.1 (fun k_ hk => (⟨hk, hk.2⟩ : _ ∧ k_ ≠ gb788)))))))) (fun _ h_ => h_.1))) hb); replace HO773 := zM (Kd.R_below (by refine zrR ?_; exact (Kd.R_mono (zfR (zfR (zfR (zfR (zfR (Kd.R_mono HO773.1 (fun k_ hk => (⟨hk, hk.2⟩ : _ ∧ k_ ≠ gb788)))))))) (fun _ h_ => h_.1))) hb); replace BK781 := zM (zf BK781.1 hb); replace BK788 := zM (blk_below (g := gb788) (o := .cells #[.int .i64 t782, .int .i64 t783, .int .i64 t784, .int .i64 t785, .int .i64 t786] 31 (0, 0)) (by exact zp5 (zK BK788.1)) hb); replace HB := zM (below_step zB3 hb); clear hb))
   go_meet
   case rel => exact ⟨_, (true), zJJ, H', ⟨by first | omega | exact Nat.le_refl _⟩, ⟨by refine zrR ?_; exact Kd.R_mono HO763.1 (fun _ hk => ⟨hk.1.2, hk.2⟩)⟩, ⟨zK BK781.1⟩, ⟨zK BK788.1⟩, ⟨zB3⟩⟩
  rw [if_neg c29] at H
  have c29b0 : (t767 != t771) = false := by simpa using c29
  (try (have c29b1 : decide (t767 = t771) = true := by simpa using c29))
  (try (have c29b2 : (t767 == t771) = true := by simpa using c29))
  clear c29
  replace H := zO H
  obtain ⟨t790, A31, H⟩ := H
  by_cases c32 : t790 = true
  rotate_left
  ·replace c32 := Bool.eq_false_iff.mpr c32
   subst c32
   rw [if_neg zF] at H
   have H' := zM H
   clear H
   go_wp2_with (first | ((with_reducible refine gate_callee (f := 13) rfl ?_); refine goesL_ (some 50) rfl rfl Tryd.func13 (by kernel_rfl) rfl #[.slice Ao14 t761.length co14] rfl zT ?_; (with_reducible refine (spec_TraceText.calls k _ _ t761 t789 _ ?side1 ?side2 A27.1).mono ?_); (case side1 => refine (Kd.R_reads' (e := 31) (base := w.heap.size) (ok := fun k_ => ((((True ∧ some k_ ≠ (v768 : Value).ownBlock) ∧ some k_ ≠ (v772 : Value).ownBlock) ∧ k_ ≠ gb781) ∧ k_ ≠ gb788)) (n := t761.length) (c := co14) ?_).2.2; exact (by refine zrR ?_; exact (Kd.R_mono (zfR (zfR (zfR (zfR (zfR (Kd.R_mono HO763.1 (fun k_ hk => (⟨hk, hk.2⟩ : _ ∧ k_ ≠ gb788)))))))) (fun _ h_ => h_.1)))); (case side2 => exact (Kd.R_reads' HO763.1).2.1); rintro e w90 ⟨rfl, hb⟩; refine ⟨_, rfl, ?_⟩; replace HO763 := zM (Kd.R_below (by refine zrR ?_; exact (Kd.R_mono (zfR (zfR (zfR (zfR (zfR (Kd.R_mono HO763.1 (fun k_ hk => (⟨hk, hk.2⟩ : _ ∧ k_ ≠ gb788)))))))) (fun _ h_ => h_.1))) hb); replace HO769 := zM (Kd.R_below (by refine zrR ?_; exact (Kd.R_mono (zfR (zfR (zfR (zfR (zfR (Kd.R_mono HO769.1 (fun k_ hk => (⟨hk, hk.2⟩ : _ ∧ k_ ≠ gb788)))))))) (fun _ h_ => h_.1))) hb); replace HO773 := zM (Kd.R_below (by refine zrR ?_; exact (Kd.R_mono (zfR (zfR (zfR (zfR (zfR (Kd.R_mono HO773.1 (fun k_ hk => (⟨hk, hk.2⟩ : _ ∧ k_ ≠ gb788)))))))) (fun _ h_ => h_.1))) hb); replace BK781 := zM (zf BK781.1 hb); replace BK788 := zM (blk_below (g := gb788) (o := .cells #[.int .i64 t782, .int .i64 t783, .int .i64 t784, .int .i64 t785, .int .i64 t786] 31 (0, 0)) (by exact zp5 (zK BK788.1)) hb); replace HB := zM (below_step zB3 hb); clear hb; obtain ⟨Ao91, co91, eo91⟩ := Kd.R_slice HO769.1; subst eo91; obtain ⟨Ao92, co92, eo92⟩ := Kd.R_slice HO773.1; subst eo92) | (go_at_call 14; (with_reducible refine (laws_sameEvents.calls k _ _ t766 _ _ t770 false _ ?side1 ?side2 ?side3 ?side4 A31.1).mono ?_); (case side1 => exact zC (Kd.R_reads' HO769.1).2.2); (case side2 => exact (Kd.R_reads' HO769.1).2.1); (case side3 => exact zC (Kd.R_reads' HO773.1).2.2); (case side4 => exact (Kd.R_reads' HO773.1).2.1); rintro e w' ⟨rfl, ⟨nd, rfl⟩⟩))
   go_meet
   case rel => exact ⟨_, (true), zJJ, H', ⟨by first | omega | exact Nat.le_refl _⟩, ⟨by refine zrR ?_; exact Kd.R_mono HO763.1 (fun _ hk => ⟨hk.1.2, hk.2⟩)⟩, ⟨zK BK781.1⟩, ⟨zK BK788.1⟩, ⟨zB3⟩⟩
  subst c32
  rw [if_pos rfl] at H
  by_cases c33 : (!(t775 == t782) || (!(t776 == t783) || (!(t777 == t784) || (!(t778 == t785) || (!(t779 == t786)))))) = true
  ·rw [if_pos c33] at H
   have c33b0 : (!(t775 == t782) || (!(t776 == t783) || (!(t777 == t784) || (!(t778 == t785) || (!(t779 == t786)))))) = true := c33
   clear c33
   have H' := zM H
   clear H
   go_wp2_with (first | ((with_reducible refine gate_callee (f := 13) rfl ?_); refine goesL_ (some 50) rfl rfl Tryd.func13 (by kernel_rfl) rfl #[.slice Ao14 t761.length co14] rfl zT ?_; (with_reducible refine (spec_TraceText.calls k _ _ t761 t789 _ ?side1 ?side2 A27.1).mono ?_); (case side1 => refine (Kd.R_reads' (e := 31) (base := w.heap.size) (ok := fun k_ => ((((True ∧ some k_ ≠ (v768 : Value).ownBlock) ∧ some k_ ≠ (v772 : Value).ownBlock) ∧ k_ ≠ gb781) ∧ k_ ≠ gb788)) (n := t761.length) (c := co14) ?_).2.2; exact (by refine zrR ?_; exact (Kd.R_mono (zfR (zfR (zfR (zfR (zfR (Kd.R_mono HO763.1 (fun k_ hk => (⟨hk, hk.2⟩ : _ ∧ k_ ≠ gb788)))))))) (fun _ h_ => h_.1)))); (case side2 => exact (Kd.R_reads' HO763.1).2.1); rintro e w34 ⟨rfl, hb⟩; refine ⟨_, rfl, ?_⟩; replace HO763 := zM (Kd.R_below (by refine zrR ?_; exact (Kd.R_mono (zfR (zfR (zfR (zfR (zfR (Kd.R_mono HO763.1 (fun k_ hk => (⟨hk, hk.2⟩ : _ ∧ k_ ≠ gb788)))))))) (fun _ h_ => h_.1))) hb); replace HO769 := zM (Kd.R_below (by refine zrR ?_; exact (Kd.R_mono (zfR (zfR (zfR (zfR (zfR (Kd.R_mono HO769.1 (fun k_ hk => (⟨hk, hk.2⟩ : _ ∧ k_ ≠ gb788)))))))) (fun _ h_ => h_.1))) hb); replace HO773 := zM (Kd.R_below (by refine zrR ?_; exact (Kd.R_mono (zfR (zfR (zfR (zfR (zfR (Kd.R_mono HO773.1 (fun k_ hk => (⟨hk, hk.2⟩ : _ ∧ k_ ≠ gb788)))))))) (fun _ h_ => h_.1))) hb); replace BK781 := zM (zf BK781.1 hb); replace BK788 := zM (blk_below (g := gb788) (o := .cells #[.int .i64 t782, .int .i64 t783, .int .i64 t784, .int .i64 t785, .int .i64 t786] 31 (0, 0)) (by exact zp5 (zK BK788.1)) hb); replace HB := zM (below_step zB3 hb); clear hb; obtain ⟨Ao35, co35, eo35⟩ := Kd.R_slice HO769.1; subst eo35; obtain ⟨Ao36, co36, eo36⟩ := Kd.R_slice HO773.1; subst eo36) | (go_at_call 14; (with_reducible refine (laws_sameEvents.calls k _ _ t766 _ _ t770 true _ ?side1 ?side2 ?side3 ?side4 A31.1).mono ?_); (case side1 => exact zC (Kd.R_reads' HO769.1).2.2); (case side2 => exact (Kd.R_reads' HO769.1).2.1); (case side3 => exact zC (Kd.R_reads' HO773.1).2.2); (case side4 => exact (Kd.R_reads' HO773.1).2.1); rintro e w' ⟨rfl, ⟨nd, rfl⟩⟩; have hnb37 := NB781_788.1; have hnc37 := NB788_781.1; have hcz38 := zc_5 (w := w34) BK781.1; have hcz39 := zc_5 (w := w34) BK788.1))
   go_meet
   case rel => exact ⟨_, (true), zJJ, H', ⟨by first | omega | exact Nat.le_refl _⟩, ⟨by refine zrR ?_; exact Kd.R_mono HO763.1 (fun _ hk => ⟨hk.1.2, hk.2⟩)⟩, ⟨zK BK781.1⟩, ⟨zK BK788.1⟩, ⟨zB3⟩⟩
  rw [if_neg c33] at H
  have c33b0 : (!(t775 == t782) || (!(t776 == t783) || (!(t777 == t784) || (!(t778 == t785) || (!(t779 == t786)))))) = false := by simpa using c33
  clear c33
  by_cases c40 : (t780 != t787) = true
  ·rw [if_pos c40] at H
   have c40b0 : (t780 != t787) = true := c40
   (try (have c40b1 : decide (t780 = t787) = false := by simpa using c40))
   (try (have c40b2 : (t780 == t787) = false := by simpa using c40))
   (try (have c40b3 : ¬ (t780 = t787) := by simpa using c40))
   clear c40
   have H' := zM H
   clear H
   go_wp2_with (first | ((with_reducible refine gate_callee (f := 13) rfl ?_); refine goesL_ (some 50) rfl rfl Tryd.func13 (by kernel_rfl) rfl #[.slice Ao14 t761.length co14] rfl zT ?_; (with_reducible refine (spec_TraceText.calls k _ _ t761 t789 _ ?side1 ?side2 A27.1).mono ?_); (case side1 => refine (Kd.R_reads' (e := 31) (base := w.heap.size) (ok := fun k_ => ((((True ∧ some k_ ≠ (v768 : Value).ownBlock) ∧ some k_ ≠ (v772 : Value).ownBlock) ∧ k_ ≠ gb781) ∧ k_ ≠ gb788)) (n := t761.length) (c := co14) ?_).2.2; exact (by refine zrR ?_; exact (Kd.R_mono (zfR (zfR (zfR (zfR (zfR (Kd.R_mono HO763.1 (fun k_ hk => (⟨hk, hk.2⟩ : _ ∧ k_ ≠ gb788)))))))) (fun _ h_ => h_.1)))); (case side2 => exact (Kd.R_reads' HO763.1).2.1); rintro e w41 ⟨rfl, hb⟩; refine ⟨_, rfl, ?_⟩; replace HO763 := zM (Kd.R_below (by refine zrR ?_; exact (Kd.R_mono (zfR (zfR (zfR (zfR (zfR (Kd.R_mono HO763.1 (fun k_ hk => (⟨hk, hk.2⟩ : _ ∧ k_ ≠ gb788)))))))) (fun _ h_ => h_.1))) hb); replace HO769 := zM (Kd.R_below (by refine zrR ?_; exact (Kd.R_mono (zfR (zfR (zfR (zfR (zfR (Kd.R_mono HO769.1 (fun k_ hk => (⟨hk, hk.2⟩ : _ ∧ k_ ≠ gb788)))))))) (fun _ h_ => h_.1))) hb); replace HO773 := zM (Kd.R_below (by refine zrR ?_; exact (Kd.R_mono (zfR (zfR (zfR (zfR (zfR (Kd.R_mono HO773.1 (fun k_ hk => (⟨hk, hk.2⟩ : _ ∧ k_ ≠ gb788)))))))) (fun _ h_ => h_.1))) hb); replace BK781 := zM (zf BK781.1 hb); replace BK788 := zM (blk_below (g := gb788) (o := .cells #[.int .i64 t782, .int .i64 t783, .int .i64 t784, .int .i64 t785, .int .i64 t786] 31 (0, 0)) (by exact zp5 (zK BK788.1)) hb); replace HB := zM (below_step zB3 hb); clear hb; obtain ⟨Ao42, co42, eo42⟩ := Kd.R_slice HO769.1; subst eo42; obtain ⟨Ao43, co43, eo43⟩ := Kd.R_slice HO773.1; subst eo43) | (go_at_call 14; (with_reducible refine (laws_sameEvents.calls k _ _ t766 _ _ t770 true _ ?side1 ?side2 ?side3 ?side4 A31.1).mono ?_); (case side1 => exact zC (Kd.R_reads' HO769.1).2.2); (case side2 => exact (Kd.R_reads' HO769.1).2.1); (case side3 => exact zC (Kd.R_reads' HO773.1).2.2); (case side4 => exact (Kd.R_reads' HO773.1).2.1); rintro e w' ⟨rfl, ⟨nd, rfl⟩⟩; have hnb44 := NB781_788.1; have hnc44 := NB788_781.1; have hcz45 := zc_5 (w := w41) BK781.1; have hcz46 := zc_5 (w := w41) BK788.1))
   go_meet
   case rel => exact ⟨_, (true), zJJ, H', ⟨by first | omega | exact Nat.le_refl _⟩, ⟨by refine zrR ?_; exact Kd.R_mono HO763.1 (fun _ hk => ⟨hk.1.2, hk.2⟩)⟩, ⟨zK BK781.1⟩, ⟨zK BK788.1⟩, ⟨zB3⟩⟩
  rw [if_neg c40] at H
  have c40b0 : (t780 != t787) = false := by simpa using c40
  (try (have c40b1 : decide (t780 = t787) = true := by simpa using c40))
  (try (have c40b2 : (t780 == t787) = true := by simpa using c40))
  clear c40
  by_cases c47 : t767 = true
  rotate_left
  ·replace c47 := Bool.eq_false_iff.mpr c47
   subst c47
   rw [if_neg zF] at H
   by_cases c75 : t780 = true
   rotate_left
   ·replace c75 := Bool.eq_false_iff.mpr c75
    subst c75
    rw [if_neg zF] at H
    have H' := zM H
    clear H
    go_wp2_with (first | ((with_reducible refine gate_callee (f := 13) rfl ?_); refine goesL_ (some 50) rfl rfl Tryd.func13 (by kernel_rfl) rfl #[.slice Ao14 t761.length co14] rfl zT ?_; (with_reducible refine (spec_TraceText.calls k _ _ t761 t789 _ ?side1 ?side2 A27.1).mono ?_); (case side1 => refine (Kd.R_reads' (e := 31) (base := w.heap.size) (ok := fun k_ => ((((True ∧ some k_ ≠ (v768 : Value).ownBlock) ∧ some k_ ≠ (v772 : Value).ownBlock) ∧ k_ ≠ gb781) ∧ k_ ≠ gb788)) (n := t761.length) (c := co14) ?_).2.2; exact (by refine zrR ?_; exact (Kd.R_mono (zfR (zfR (zfR (zfR (zfR (Kd.R_mono HO763.1 (fun k_ hk => (⟨hk, hk.2⟩ : _ ∧ k_ ≠ gb788)))))))) (fun _ h_ => h_.1)))); (case side2 => exact (Kd.R_reads' HO763.1).2.1); rintro e w84 ⟨rfl, hb⟩; refine ⟨_, rfl, ?_⟩; replace HO763 := zM (Kd.R_below (by refine zrR ?_; exact (Kd.R_mono (zfR (zfR (zfR (zfR (zfR (Kd.R_mono HO763.1 (fun k_ hk => (⟨hk, hk.2⟩ : _ ∧ k_ ≠ gb788)))))))) (fun _ h_ => h_.1))) hb); replace HO769 := zM (Kd.R_below (by refine zrR ?_; exact (Kd.R_mono (zfR (zfR (zfR (zfR (zfR (Kd.R_mono HO769.1 (fun k_ hk => (⟨hk, hk.2⟩ : _ ∧ k_ ≠ gb788)))))))) (fun _ h_ => h_.1))) hb); replace HO773 := zM (Kd.R_below (by refine zrR ?_; exact (Kd.R_mono (zfR (zfR (zfR (zfR (zfR (Kd.R_mono HO773.1 (fun k_ hk => (⟨hk, hk.2⟩ : _ ∧ k_ ≠ gb788)))))))) (fun _ h_ => h_.1))) hb); replace BK781 := zM (zf BK781.1 hb); replace BK788 := zM (blk_below (g := gb788) (o := .cells #[.int .i64 t782, .int .i64 t783, .int .i64 t784, .int .i64 t785, .int .i64 t786] 31 (0, 0)) (by exact zp5 (zK BK788.1)) hb); replace HB := zM (below_step zB3 hb); clear hb; obtain ⟨Ao85, co85, eo85⟩ := Kd.R_slice HO769.1; subst eo85; obtain ⟨Ao86, co86, eo86⟩ := Kd.R_slice HO773.1; subst eo86) | (go_at_call 14; (with_reducible refine (laws_sameEvents.calls k _ _ t766 _ _ t770 true _ ?side1 ?side2 ?side3 ?side4 A31.1).mono ?_); (case side1 => exact zC (Kd.R_reads' HO769.1).2.2); (case side2 => exact (Kd.R_reads' HO769.1).2.1); (case side3 => exact zC (Kd.R_reads' HO773.1).2.2); (case side4 => exact (Kd.R_reads' HO773.1).2.1); rintro e w' ⟨rfl, ⟨nd, rfl⟩⟩; have hnb87 := NB781_788.1; have hnc87 := NB788_781.1; have hcz88 := zc_5 (w := w84) BK781.1; have hcz89 := zc_5 (w := w84) BK788.1))
    go_meet
    case rel => exact ⟨_, (false), zJJ, H', ⟨by first | omega | exact Nat.le_refl _⟩, ⟨by refine zrR ?_; exact Kd.R_mono HO763.1 (fun _ hk => ⟨hk.1.2, hk.2⟩)⟩, ⟨zK BK781.1⟩, ⟨zK BK788.1⟩, ⟨zB3⟩⟩
   subst c75
   rw [if_pos rfl] at H
   replace H := zO H
   obtain ⟨t793, A76, H⟩ := H
   have H' := zM H
   clear H
   go_wp2_with (first | ((with_reducible refine gate_callee (f := 13) rfl ?_); refine goesL_ (some 50) rfl rfl Tryd.func13 (by kernel_rfl) rfl #[.slice Ao14 t761.length co14] rfl zT ?_; (with_reducible refine (spec_TraceText.calls k _ _ t761 t789 _ ?side1 ?side2 A27.1).mono ?_); (case side1 => refine (Kd.R_reads' (e := 31) (base := w.heap.size) (ok := fun k_ => ((((True ∧ some k_ ≠ (v768 : Value).ownBlock) ∧ some k_ ≠ (v772 : Value).ownBlock) ∧ k_ ≠ gb781) ∧ k_ ≠ gb788)) (n := t761.length) (c := co14) ?_).2.2; exact (by refine zrR ?_; exact (Kd.R_mono (zfR (zfR (zfR (zfR (zfR (Kd.R_mono HO763.1 (fun k_ hk => (⟨hk, hk.2⟩ : _ ∧ k_ ≠ gb788)))))))) (fun _ h_ => h_.1)))); (case side2 => exact (Kd.R_reads' HO763.1).2.1); rintro e w77 ⟨rfl, hb⟩; refine ⟨_, rfl, ?_⟩; replace HO763 := zM (Kd.R_below (by refine zrR ?_; exact (Kd.R_mono (zfR (zfR (zfR (zfR (zfR (Kd.R_mono HO763.1 (fun k_ hk => (⟨hk, hk.2⟩ : _ ∧ k_ ≠ gb788)))))))) (fun _ h_ => h_.1))) hb); replace HO769 := zM (Kd.R_below (by refine zrR ?_; exact (Kd.R_mono (zfR (zfR (zfR (zfR (zfR (Kd.R_mono HO769.1 (fun k_ hk => (⟨hk, hk.2⟩ : _ ∧ k_ ≠ gb788)))))))) (fun _ h_ => h_.1))) hb); replace HO773 := zM (Kd.R_below (by refine zrR ?_; exact (Kd.R_mono (zfR (zfR (zfR (zfR (zfR (Kd.R_mono HO773.1 (fun k_ hk => (⟨hk, hk.2⟩ : _ ∧ k_ ≠ gb788)))))))) (fun _ h_ => h_.1))) hb); replace BK781 := zM (zf BK781.1 hb); replace BK788 := zM (blk_below (g := gb788) (o := .cells #[.int .i64 t782, .int .i64 t783, .int .i64 t784, .int .i64 t785, .int .i64 t786] 31 (0, 0)) (by exact zp5 (zK BK788.1)) hb); replace HB := zM (below_step zB3 hb); clear hb; obtain ⟨Ao78, co78, eo78⟩ := Kd.R_slice HO769.1; subst eo78; obtain ⟨Ao79, co79, eo79⟩ := Kd.R_slice HO773.1; subst eo79) | (go_at_call 14; (with_reducible refine (laws_sameEvents.calls k _ _ t766 _ _ t770 true _ ?side1 ?side2 ?side3 ?side4 A31.1).mono ?_); (case side1 => exact zC (Kd.R_reads' HO769.1).2.2); (case side2 => exact (Kd.R_reads' HO769.1).2.1); (case side3 => exact zC (Kd.R_reads' HO773.1).2.2); (case side4 => exact (Kd.R_reads' HO773.1).2.1); rintro e w' ⟨rfl, ⟨nd, rfl⟩⟩; have hnb80 := NB781_788.1; have hnc80 := NB788_781.1; have hcz81 := zc_5 (w := w77) BK781.1; have hcz82 := zc_5 (w := w77) BK788.1) | (go_at_call 15; (with_reducible refine (impl_EventText.calls k t775 t776 t777 t778 t779 t793 _ A76.1).mono ?_); rintro e w83 ⟨rfl, hb⟩; replace HO763 := zM (Kd.R_below (zR HO763.1) hb); replace HO769 := zM (Kd.R_below (zR HO769.1) hb); replace HO773 := zM (Kd.R_below (zR HO773.1) hb); replace BK781 := zM (zb BK781.1 hb); replace BK788 := zM (zb BK788.1 hb); replace HB := zM (below_step zB3 hb); clear hb))
   go_meet
   case rel => exact ⟨_, ((t793.toList != t774.toList)), zJJ, H', ⟨by first | omega | exact Nat.le_refl _⟩, ⟨by refine zrR ?_; exact Kd.R_mono HO763.1 (fun _ hk => ⟨hk.1.2, hk.2⟩)⟩, ⟨zK BK781.1⟩, ⟨zK BK788.1⟩, ⟨zB3⟩⟩
  subst c47
  rw [if_pos rfl] at H
  replace H := zO H
  obtain ⟨t791, A48, H⟩ := H
  by_cases c49 : t791.toList = t765.toList
  rotate_left
  ·rw [if_neg c49] at H
   have c49b0 : (t791.toList == t765.toList) = false := beq_eq_false_iff_ne.mpr c49
   have c49b1 : (t791.toList != t765.toList) = true := bne_iff_ne.mpr c49
   have H' := zM H
   clear H
   go_wp2_with (first | ((with_reducible refine gate_callee (f := 13) rfl ?_); refine goesL_ (some 50) rfl rfl Tryd.func13 (by kernel_rfl) rfl #[.slice Ao14 t761.length co14] rfl zT ?_; (with_reducible refine (spec_TraceText.calls k _ _ t761 t789 _ ?side1 ?side2 A27.1).mono ?_); (case side1 => refine (Kd.R_reads' (e := 31) (base := w.heap.size) (ok := fun k_ => ((((True ∧ some k_ ≠ (v768 : Value).ownBlock) ∧ some k_ ≠ (v772 : Value).ownBlock) ∧ k_ ≠ gb781) ∧ k_ ≠ gb788)) (n := t761.length) (c := co14) ?_).2.2; exact (by refine zrR ?_; exact (Kd.R_mono (zfR (zfR (zfR (zfR (zfR (Kd.R_mono HO763.1 (fun k_ hk => (⟨hk, hk.2⟩ : _ ∧ k_ ≠ gb788)))))))) (fun _ h_ => h_.1)))); (case side2 => exact (Kd.R_reads' HO763.1).2.1); rintro e w68 ⟨rfl, hb⟩; refine ⟨_, rfl, ?_⟩; replace HO763 := zM (Kd.R_below (by refine zrR ?_; exact (Kd.R_mono (zfR (zfR (zfR (zfR (zfR (Kd.R_mono HO763.1 (fun k_ hk => (⟨hk, hk.2⟩ : _ ∧ k_ ≠ gb788)))))))) (fun _ h_ => h_.1))) hb); replace HO769 := zM (Kd.R_below (by refine zrR ?_; exact (Kd.R_mono (zfR (zfR (zfR (zfR (zfR (Kd.R_mono HO769.1 (fun k_ hk => (⟨hk, hk.2⟩ : _ ∧ k_ ≠ gb788)))))))) (fun _ h_ => h_.1))) hb); replace HO773 := zM (Kd.R_below (by refine zrR ?_; exact (Kd.R_mono (zfR (zfR (zfR (zfR (zfR (Kd.R_mono HO773.1 (fun k_ hk => (⟨hk, hk.2⟩ : _ ∧ k_ ≠ gb788)))))))) (fun _ h_ => h_.1))) hb); replace BK781 := zM (zf BK781.1 hb); replace BK788 := zM (blk_below (g := gb788) (o := .cells #[.int .i64 t782, .int .i64 t783, .int .i64 t784, .int .i64 t785, .int .i64 t786] 31 (0, 0)) (by exact zp5 (zK BK788.1)) hb); replace HB := zM (below_step zB3 hb); clear hb; obtain ⟨Ao69, co69, eo69⟩ := Kd.R_slice HO769.1; subst eo69; obtain ⟨Ao70, co70, eo70⟩ := Kd.R_slice HO773.1; subst eo70) | (go_at_call 14; (with_reducible refine (laws_sameEvents.calls k _ _ t766 _ _ t770 true _ ?side1 ?side2 ?side3 ?side4 A31.1).mono ?_); (case side1 => exact zC (Kd.R_reads' HO769.1).2.2); (case side2 => exact (Kd.R_reads' HO769.1).2.1); (case side3 => exact zC (Kd.R_reads' HO773.1).2.2); (case side4 => exact (Kd.R_reads' HO773.1).2.1); rintro e w' ⟨rfl, ⟨nd, rfl⟩⟩; have hnb71 := NB781_788.1; have hnc71 := NB788_781.1; have hcz72 := zc_5 (w := w68) BK781.1; have hcz73 := zc_5 (w := w68) BK788.1) | (go_at_call 6; (with_reducible refine (impl_TraceText.calls k _ _ t766 t791 _ ?side1 ?side2 A48.1).mono ?_); (case side1 => exact zC (Kd.R_reads' HO769.1).2.2); (case side2 => exact (Kd.R_reads' HO769.1).2.1); rintro e w74 ⟨rfl, hb⟩; replace HO763 := zM (Kd.R_below (zR HO763.1) hb); replace HO769 := zM (Kd.R_below (zR HO769.1) hb); replace HO773 := zM (Kd.R_below (zR HO773.1) hb); replace BK781 := zM (zb BK781.1 hb); replace BK788 := zM (zb BK788.1 hb); replace HB := zM (below_step zB3 hb); clear hb))
   go_meet
   case rel => exact ⟨_, (true), zJJ, H', ⟨by first | omega | exact Nat.le_refl _⟩, ⟨by refine zrR ?_; exact Kd.R_mono HO763.1 (fun _ hk => ⟨hk.1.2, hk.2⟩)⟩, ⟨zK BK781.1⟩, ⟨zK BK788.1⟩, ⟨zB3⟩⟩
  rw [if_pos c49] at H
  have c49b0 : (t791.toList == t765.toList) = true := beq_iff_eq.mpr c49
  have c49b1 : (t791.toList != t765.toList) = false := bne_eq_false_iff_eq.mpr c49
  clear c49
  by_cases c50 : t780 = true
  rotate_left
  ·replace c50 := Bool.eq_false_iff.mpr c50
   subst c50
   rw [if_neg zF] at H
   have H' := zM H
   clear H
   go_wp2_with (first | ((with_reducible refine gate_callee (f := 13) rfl ?_); refine goesL_ (some 50) rfl rfl Tryd.func13 (by kernel_rfl) rfl #[.slice Ao14 t761.length co14] rfl zT ?_; (with_reducible refine (spec_TraceText.calls k _ _ t761 t789 _ ?side1 ?side2 A27.1).mono ?_); (case side1 => refine (Kd.R_reads' (e := 31) (base := w.heap.size) (ok := fun k_ => ((((True ∧ some k_ ≠ (v768 : Value).ownBlock) ∧ some k_ ≠ (v772 : Value).ownBlock) ∧ k_ ≠ gb781) ∧ k_ ≠ gb788)) (n := t761.length) (c := co14) ?_).2.2; exact (by refine zrR ?_; exact (Kd.R_mono (zfR (zfR (zfR (zfR (zfR (Kd.R_mono HO763.1 (fun k_ hk => (⟨hk, hk.2⟩ : _ ∧ k_ ≠ gb788)))))))) (fun _ h_ => h_.1)))); (case side2 => exact (Kd.R_reads' HO763.1).2.1); rintro e w61 ⟨rfl, hb⟩; refine ⟨_, rfl, ?_⟩; replace HO763 := zM (Kd.R_below (by refine zrR ?_; exact (Kd.R_mono (zfR (zfR (zfR (zfR (zfR (Kd.R_mono HO763.1 (fun k_ hk => (⟨hk, hk.2⟩ : _ ∧ k_ ≠ gb788)))))))) (fun _ h_ => h_.1))) hb); replace HO769 := zM (Kd.R_below (by refine zrR ?_; exact (Kd.R_mono (zfR (zfR (zfR (zfR (zfR (Kd.R_mono HO769.1 (fun k_ hk => (⟨hk, hk.2⟩ : _ ∧ k_ ≠ gb788)))))))) (fun _ h_ => h_.1))) hb); replace HO773 := zM (Kd.R_below (by refine zrR ?_; exact (Kd.R_mono (zfR (zfR (zfR (zfR (zfR (Kd.R_mono HO773.1 (fun k_ hk => (⟨hk, hk.2⟩ : _ ∧ k_ ≠ gb788)))))))) (fun _ h_ => h_.1))) hb); replace BK781 := zM (zf BK781.1 hb); replace BK788 := zM (blk_below (g := gb788) (o := .cells #[.int .i64 t782, .int .i64 t783, .int .i64 t784, .int .i64 t785, .int .i64 t786] 31 (0, 0)) (by exact zp5 (zK BK788.1)) hb); replace HB := zM (below_step zB3 hb); clear hb; obtain ⟨Ao62, co62, eo62⟩ := Kd.R_slice HO769.1; subst eo62; obtain ⟨Ao63, co63, eo63⟩ := Kd.R_slice HO773.1; subst eo63) | (go_at_call 14; (with_reducible refine (laws_sameEvents.calls k _ _ t766 _ _ t770 true _ ?side1 ?side2 ?side3 ?side4 A31.1).mono ?_); (case side1 => exact zC (Kd.R_reads' HO769.1).2.2); (case side2 => exact (Kd.R_reads' HO769.1).2.1); (case side3 => exact zC (Kd.R_reads' HO773.1).2.2); (case side4 => exact (Kd.R_reads' HO773.1).2.1); rintro e w' ⟨rfl, ⟨nd, rfl⟩⟩; have hnb64 := NB781_788.1; have hnc64 := NB788_781.1; have hcz65 := zc_5 (w := w61) BK781.1; have hcz66 := zc_5 (w := w61) BK788.1) | (go_at_call 6; (with_reducible refine (impl_TraceText.calls k _ _ t766 t791 _ ?side1 ?side2 A48.1).mono ?_); (case side1 => exact zC (Kd.R_reads' HO769.1).2.2); (case side2 => exact (Kd.R_reads' HO769.1).2.1); rintro e w67 ⟨rfl, hb⟩; replace HO763 := zM (Kd.R_below (zR HO763.1) hb); replace HO769 := zM (Kd.R_below (zR HO769.1) hb); replace HO773 := zM (Kd.R_below (zR HO773.1) hb); replace BK781 := zM (zb BK781.1 hb); replace BK788 := zM (zb BK788.1 hb); replace HB := zM (below_step zB3 hb); clear hb))
   go_meet
   case rel => exact ⟨_, (false), zJJ, H', ⟨by first | omega | exact Nat.le_refl _⟩, ⟨by refine zrR ?_; exact Kd.R_mono HO763.1 (fun _ hk => ⟨hk.1.2, hk.2⟩)⟩, ⟨zK BK781.1⟩, ⟨zK BK788.1⟩, ⟨zB3⟩⟩
  subst c50
  rw [if_pos rfl] at H
  replace H := zO H
  obtain ⟨t792, A51, H⟩ := H
  have H' := zM H
  clear H
  go_wp2_with (first | ((with_reducible refine gate_callee (f := 13) rfl ?_); refine goesL_ (some 50) rfl rfl Tryd.func13 (by kernel_rfl) rfl #[.slice Ao14 t761.length co14] rfl zT ?_; (with_reducible refine (spec_TraceText.calls k _ _ t761 t789 _ ?side1 ?side2 A27.1).mono ?_); (case side1 => refine (Kd.R_reads' (e := 31) (base := w.heap.size) (ok := fun k_ => ((((True ∧ some k_ ≠ (v768 : Value).ownBlock) ∧ some k_ ≠ (v772 : Value).ownBlock) ∧ k_ ≠ gb781) ∧ k_ ≠ gb788)) (n := t761.length) (c := co14) ?_).2.2; exact (by refine zrR ?_; exact (Kd.R_mono (zfR (zfR (zfR (zfR (zfR (Kd.R_mono HO763.1 (fun k_ hk => (⟨hk, hk.2⟩ : _ ∧ k_ ≠ gb788)))))))) (fun _ h_ => h_.1)))); (case side2 => exact (Kd.R_reads' HO763.1).2.1); rintro e w52 ⟨rfl, hb⟩; refine ⟨_, rfl, ?_⟩; replace HO763 := zM (Kd.R_below (by refine zrR ?_; exact (Kd.R_mono (zfR (zfR (zfR (zfR (zfR (Kd.R_mono HO763.1 (fun k_ hk => (⟨hk, hk.2⟩ : _ ∧ k_ ≠ gb788)))))))) (fun _ h_ => h_.1))) hb); replace HO769 := zM (Kd.R_below (by refine zrR ?_; exact (Kd.R_mono (zfR (zfR (zfR (zfR (zfR (Kd.R_mono HO769.1 (fun k_ hk => (⟨hk, hk.2⟩ : _ ∧ k_ ≠ gb788)))))))) (fun _ h_ => h_.1))) hb); replace HO773 := zM (Kd.R_below (by refine zrR ?_; exact (Kd.R_mono (zfR (zfR (zfR (zfR (zfR (Kd.R_mono HO773.1 (fun k_ hk => (⟨hk, hk.2⟩ : _ ∧ k_ ≠ gb788)))))))) (fun _ h_ => h_.1))) hb); replace BK781 := zM (zf BK781.1 hb); replace BK788 := zM (blk_below (g := gb788) (o := .cells #[.int .i64 t782, .int .i64 t783, .int .i64 t784, .int .i64 t785, .int .i64 t786] 31 (0, 0)) (by exact zp5 (zK BK788.1)) hb); replace HB := zM (below_step zB3 hb); clear hb; obtain ⟨Ao53, co53, eo53⟩ := Kd.R_slice HO769.1; subst eo53; obtain ⟨Ao54, co54, eo54⟩ := Kd.R_slice HO773.1; subst eo54) | (go_at_call 14; (with_reducible refine (laws_sameEvents.calls k _ _ t766 _ _ t770 true _ ?side1 ?side2 ?side3 ?side4 A31.1).mono ?_); (case side1 => exact zC (Kd.R_reads' HO769.1).2.2); (case side2 => exact (Kd.R_reads' HO769.1).2.1); (case side3 => exact zC (Kd.R_reads' HO773.1).2.2); (case side4 => exact (Kd.R_reads' HO773.1).2.1); rintro e w' ⟨rfl, ⟨nd, rfl⟩⟩; have hnb55 := NB781_788.1; have hnc55 := NB788_781.1; have hcz56 := zc_5 (w := w52) BK781.1; have hcz57 := zc_5 (w := w52) BK788.1) | (go_at_call 6; (with_reducible refine (impl_TraceText.calls k _ _ t766 t791 _ ?side1 ?side2 A48.1).mono ?_); (case side1 => exact zC (Kd.R_reads' HO769.1).2.2); (case side2 => exact (Kd.R_reads' HO769.1).2.1); rintro e w58 ⟨rfl, hb⟩; replace HO763 := zM (Kd.R_below (zR HO763.1) hb); replace HO769 := zM (Kd.R_below (zR HO769.1) hb); replace HO773 := zM (Kd.R_below (zR HO773.1) hb); replace BK781 := zM (zb BK781.1 hb); replace BK788 := zM (zb BK788.1 hb); replace HB := zM (below_step zB3 hb); clear hb; have hcz59 := zc_5 (w := w58) BK781.1) | (go_at_call 15; (with_reducible refine (impl_EventText.calls k t775 t776 t777 t778 t779 t792 _ A51.1).mono ?_); rintro e w60 ⟨rfl, hb⟩; replace HO763 := zM (Kd.R_below (zR HO763.1) hb); replace HO769 := zM (Kd.R_below (zR HO769.1) hb); replace HO773 := zM (Kd.R_below (zR HO773.1) hb); replace BK781 := zM (zb BK781.1 hb); replace BK788 := zM (zb BK788.1 hb); replace HB := zM (below_step zB3 hb); clear hb))
  go_meet
  case rel => exact ⟨_, ((t792.toList != t774.toList)), zJJ, H', ⟨by first | omega | exact Nat.le_refl _⟩, ⟨by refine zrR ?_; exact Kd.R_mono HO763.1 (fun _ hk => ⟨hk.1.2, hk.2⟩)⟩, ⟨zK BK781.1⟩, ⟨zK BK788.1⟩, ⟨zB3⟩⟩
 case rest =>
  clear HC12
  obtain ⟨kq, x90_11, rfl, HA, HJ11, HO_3, BK781, BK788, HB⟩ := hcut
  cases kq with
  | zero => exact absurd HA.1 (by simp [laws_FnStories.j0])
  | succ kj11 =>
   have H := HA.1
   clear HA
   simp only [laws_FnStories.j0] at H
   by_cases c94 : x90_11 = true
   ·subst c94
    rw [if_pos rfl] at H
    obtain rfl := Option.some.inj H
    go_wp2
    go_ret
    exact ⟨zE, zB3⟩
   replace c94 := Bool.eq_false_iff.mpr c94
   subst c94
   rw [if_neg zF] at H
   have H' := zM H
   clear H
   go_wp2
   go_loopg [15] kj11 (fun kq v15 w' => ∃ (x15_2 : Int), v15 = .int .i64 x15_2 ∧ Aside0 (laws_FnStories.l0 kq t761 t764 x15_2 = some r) ∧ Aside0 (kq ≤ kj11) ∧ Aside0 (Kd.R k31 31 w' w.heap.size (fun k_ => k_ ≠ gb781 ∧ k_ ≠ gb788) (.slice Ao14 t761.length co14) t761) ∧ Aside0 (w'.heap[gb781]? = some (.cells #[.int .i64 t775, .int .i64 t776, .int .i64 t777, .int .i64 t778, .int .i64 t779] 31 (0, 0))) ∧ Aside0 (w'.heap[gb788]? = some (.cells #[.int .i64 t782, .int .i64 t783, .int .i64 t784, .int .i64 t785, .int .i64 t786] 31 (0, 0))) ∧ Aside0 (Below w.heap.size w w'))
   case atStart => exact ⟨(0), zJJ, H', ⟨Nat.le_refl _⟩, ⟨zR HO_3.1⟩, ⟨zK BK781.1⟩, ⟨zK BK788.1⟩, ⟨zB3⟩⟩
   case round =>
    clear H'
    obtain ⟨x15_2, rfl, HA, HK2, HO_3, BK781, BK788, HB⟩ := hrel
    cases gk with
    | zero => exact absurd HA.1 (by simp [laws_FnStories.l0])
    | succ k2 =>
     have H := HA.1
     clear HA
     simp only [laws_FnStories.l0] at H
     by_cases c95 : x15_2 < (t761.length : Int)
     ·rw [if_pos c95] at H
      have c95b0 := decide_eq_true c95
      clear c95
      replace H := zIt H
      obtain ⟨c96b0, H⟩ := H
      by_cases c97 : ((rd_T31 t761 x15_2).f0) < 0
      ·rw [if_pos c97] at H
       have c97b0 := decide_eq_true c97
       clear c97
       obtain rfl := Option.some.inj H
       obtain ⟨p794, q794, ad794, e794, hx794_0, hx794_1, hx794_2, hx794_3, hx794_4⟩ := zRd (at_T31 (Kd.R_reads' HO_3.1).2.2 x15_2)
       cases e794
       go_wp2
       go_ret
       exact ⟨zE, zB3⟩
      rw [if_neg c97] at H
      have c97b0 := decide_eq_false c97
      clear c97
      by_cases c98 : ((rd_T31 t761 x15_2).f0) > 99
      ·rw [if_pos c98] at H
       have c98b0 := decide_eq_true c98
       clear c98
       obtain rfl := Option.some.inj H
       obtain ⟨p794, q794, ad794, e794, hx794_0, hx794_1, hx794_2, hx794_3, hx794_4⟩ := zRd (at_T31 (Kd.R_reads' HO_3.1).2.2 x15_2)
       cases e794
       obtain ⟨p795, q795, ad795, e795, hx795_0, hx795_1, hx795_2, hx795_3, hx795_4⟩ := zRd (at_T31 (Kd.R_reads' HO_3.1).2.2 x15_2)
       obtain rfl : ad794 = ad795 := (by injection e795)
       go_wp2
       go_ret
       exact ⟨zE, zB3⟩
      rw [if_neg c98] at H
      have c98b0 := decide_eq_false c98
      clear c98
      have H' := zM H
      clear H
      obtain ⟨p794, q794, ad794, e794, hx794_0, hx794_1, hx794_2, hx794_3, hx794_4⟩ := zRd (at_T31 (Kd.R_reads' HO_3.1).2.2 x15_2)
      cases e794
      obtain ⟨p795, q795, ad795, e795, hx795_0, hx795_1, hx795_2, hx795_3, hx795_4⟩ := zRd (at_T31 (Kd.R_reads' HO_3.1).2.2 x15_2)
      obtain rfl : ad794 = ad795 := (by injection e795)
      go_wp2
      go_roundg k2
      case measure => have := HJ11.1; have := HK2.1; omega
      case rel => exact ⟨(wrap64 (x15_2 + 1)), zJJ, H', ⟨by have := HJ11.1; have := HK2.1; omega⟩, ⟨zR HO_3.1⟩, ⟨zK BK781.1⟩, ⟨zK BK788.1⟩, ⟨zB3⟩⟩
     rw [if_neg c95] at H
     have c95b0 := decide_eq_false c95
     clear c95
     replace H := zO H
     obtain ⟨⟨t796, t797⟩, A99, H⟩ := H
     try dsimp only at H
     by_cases c100 : (t761.length : Int) > 60
     ·rw [if_pos c100] at H
      have c100b0 := decide_eq_true c100
      have c100b1 : decide (60 < t761.length) = true := decide_eq_true (by omega)
      clear c100
      obtain rfl := Option.some.inj H
      go_wp2_with (first | ((with_reducible refine gate_callee (f := 8) rfl ?_); refine goesL_ (some 113) rfl rfl Tryd.func8 (by kernel_rfl) rfl #[.string t764] rfl zT ?_; (with_reducible refine (impl_TraceRead.calls k2 t764 t796 t797 _ A99.1).mono ?_); rintro e w101 ⟨v798, rfl, ho0, hb⟩; refine ⟨_, rfl, ?_⟩; have HO799 := zM (Kd.R_lower (Kd.R_newB (Kd.R_newB (Kd.R_new' ho0 (Kd.R_lt (zR HO_3.1))) (g := gb781) (o := .cells #[.int .i64 t775, .int .i64 t776, .int .i64 t777, .int .i64 t778, .int .i64 t779] 31 (0, 0)) (zK BK781.1)) (g := gb788) (o := .cells #[.int .i64 t782, .int .i64 t783, .int .i64 t784, .int .i64 t785, .int .i64 t786] 31 (0, 0)) (zK BK788.1)) (below_size zB3)); replace HO_3 := zM (Kd.R_elder' (zR HO_3.1) (Kd.R_base ho0) hb); replace BK781 := zM (zb BK781.1 hb); replace BK788 := zM (zb BK788.1 hb); replace HB := zM (below_step zB3 hb); clear hb ho0))
      go_ret
      exact ⟨zE, zB3⟩
     rw [if_neg c100] at H
     have c100b0 := decide_eq_false c100
     have c100b1 : decide (60 < t761.length) = false := decide_eq_false (by omega)
     clear c100
     by_cases c102 : t797 = true
     rotate_left
     ·replace c102 := Bool.eq_false_iff.mpr c102
      subst c102
      rw [if_neg zF] at H
      obtain rfl := Option.some.inj H
      go_wp2_with (first | ((with_reducible refine gate_callee (f := 8) rfl ?_); refine goesL_ (some 113) rfl rfl Tryd.func8 (by kernel_rfl) rfl #[.string t764] rfl zT ?_; (with_reducible refine (impl_TraceRead.calls k2 t764 t796 false _ A99.1).mono ?_); rintro e w106 ⟨v798, rfl, ho0, hb⟩; refine ⟨_, rfl, ?_⟩; have HO799 := zM (Kd.R_lower (Kd.R_newB (Kd.R_newB (Kd.R_new' ho0 (Kd.R_lt (zR HO_3.1))) (g := gb781) (o := .cells #[.int .i64 t775, .int .i64 t776, .int .i64 t777, .int .i64 t778, .int .i64 t779] 31 (0, 0)) (zK BK781.1)) (g := gb788) (o := .cells #[.int .i64 t782, .int .i64 t783, .int .i64 t784, .int .i64 t785, .int .i64 t786] 31 (0, 0)) (zK BK788.1)) (below_size zB3)); replace HO_3 := zM (Kd.R_elder' (zR HO_3.1) (Kd.R_base ho0) hb); replace BK781 := zM (zb BK781.1 hb); replace BK788 := zM (zb BK788.1 hb); replace HB := zM (below_step zB3 hb); clear hb ho0))
      go_ret
      exact ⟨zE, zB3⟩
     subst c102
     rw [if_pos rfl] at H
     replace H := zO H
     obtain ⟨t800, A103, H⟩ := H
     obtain rfl := Option.some.inj H
     go_wp2_with (first | ((with_reducible refine gate_callee (f := 8) rfl ?_); refine goesL_ (some 113) rfl rfl Tryd.func8 (by kernel_rfl) rfl #[.string t764] rfl zT ?_; (with_reducible refine (impl_TraceRead.calls k2 t764 t796 true _ A99.1).mono ?_); rintro e w104 ⟨v798, rfl, ho0, hb⟩; refine ⟨_, rfl, ?_⟩; have HO799 := zM (Kd.R_lower (Kd.R_newB (Kd.R_newB (Kd.R_new' ho0 (Kd.R_lt (zR HO_3.1))) (g := gb781) (o := .cells #[.int .i64 t775, .int .i64 t776, .int .i64 t777, .int .i64 t778, .int .i64 t779] 31 (0, 0)) (zK BK781.1)) (g := gb788) (o := .cells #[.int .i64 t782, .int .i64 t783, .int .i64 t784, .int .i64 t785, .int .i64 t786] 31 (0, 0)) (zK BK788.1)) (below_size zB3)); replace HO_3 := zM (Kd.R_elder' (zR HO_3.1) (Kd.R_base ho0) hb); replace BK781 := zM (zb BK781.1 hb); replace BK788 := zM (zb BK788.1 hb); replace HB := zM (below_step zB3 hb); clear hb ho0; obtain ⟨Ao105, co105, eo105⟩ := Kd.R_slice HO799.1; subst eo105) | (go_at_call 14; (with_reducible refine (laws_sameEvents.calls k2 _ _ t796 _ _ t761 t800 _ ?side1 ?side2 ?side3 ?side4 A103.1).mono ?_); (case side1 => exact zC (Kd.R_reads' HO799.1).2.2); (case side2 => exact (Kd.R_reads' HO799.1).2.1); (case side3 => exact zC (Kd.R_reads' HO_3.1).2.2); (case side4 => exact (Kd.R_reads' HO_3.1).2.1); rintro e w' ⟨rfl, ⟨nd, rfl⟩⟩))
     go_ret
     exact ⟨zE, zB3⟩

/-- THE ONE PURE STATEMENT of laws_FnStories: yours. -/
def laws_FnStories.Pure : Prop := ∀ (l0 : List Int), l0.length ≤ maxLen → l0.length * 1 ≤ 140737488351232 → (∀ x ∈ l0, (Lit.int .u8 x).wf = true) → ∃ k, laws_FnStories.f k l0 = some true
theorem laws_FnStories.walk (P : laws_FnStories.Pure) (a0 : Option Addr) (len0 cap0 : Nat) (z0 : List Int) (w : World) (w0 : (a0 = none ∧ len0 = 0 ∧ cap0 = 0 ∧ z0 = []) ∨ ∃ x, a0 = some x ∧ len0 ≤ cap0 ∧ cap0 ≤ maxLen ∧ z0.length = cap0 ∧ (∀ i, i < z0.length → w.cell? (x.add i) = some (.int .u8 (z0.getD i 0))) ∧ ∀ n ∈ z0, (Lit.int .u8 n).wf = true) (y0 : len0 * 1 ≤ 140737488351232) :
  Calls Tryd.prog 3 #[.slice a0 len0 cap0] w fun e w' => e = .returned (.bool true) ∧ Below w.heap.size w w' := by
 obtain ⟨l0, rfl, hr0, hm0, hw0, hc0⟩ := ReadsInt.ofRowC w0
 obtain ⟨k, h⟩ := P l0 hm0 y0 hw0
 refine (laws_FnStories.calls k _ _ l0 true w (Kd.C_of_reads (d := (0 : Int)) (h1 := fun _ => rfl) hr0) hc0 h).mono ?_
 rintro e w' ⟨rfl, hd⟩
 exact ⟨rfl, hd⟩

end Go.Proofs.YtaakcbgpmabaaaaDoor.PFnStories
