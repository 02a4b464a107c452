-- made by wip/tools/myprint.py out of the seat's translation
import Derived.Test.YtpcgecacaemalaaPFnExactRunTox0
import Derived.Test.YtpcgecacaemalaaPFnExactRunTox2
import Derived.Test.YtpcgecacaemalaaPFnExactRunTox3
import Derived.Test.YtpcgecacaemalaaPFnExactRunTox6
import Derived.Test.YtpcgecacaemalaaPFnExactRunTox7
namespace Go.Proofs.Ytpcgecacaemalaa.PFnExactRunTo
open Go.RowKit Go.Proofs.YtpcgecacaemalaaW.PrintWords Go.Proofs.YtpcgecacaemalaaW.PrintLast Go.Proofs.YtpcgecacaemalaaW.PrintMore
attribute [local go_sem] max2_int min2_int max_two min_two max_three min_three max_four min_four   -- for this text's walks alone
set_option linter.unusedVariables false
set_option linter.unusedSimpArgs false
set_option maxHeartbeats 8000000
set_option maxRecDepth 100000

/-! ### impl_RunTo: function 9 -/
mutual
def impl_RunTo.j0 : Nat → List Int → List (S53) → List Int → Bool → List Int → List Int → Option (List Int × (List (S53)) × Int × Int)
 | 0, _, _, _, _, _, _ => none
 | k + 1, x0, x1, x2, x27, x238000, x238001 => if x27 = true then (some (x0, x1, 0, 0)) else ((impl_memOk.f k x0).bind fun t245 => (impl_RunTo.l0 k x0 x1 x2 t245 x2 (x2.length : Int) 0 x238000 x238001))
def impl_RunTo.l0 : Nat → List Int → List (S53) → List Int → Bool → List Int → Int → Int → List Int → List Int → Option (List Int × (List (S53)) × Int × Int)
 | 0, _, _, _, _, _, _, _, _, _ => none
 | k + 1, x0, x1, x2, x12, x32, x33, x34, x238000, x238001 => if x34 < x33 then (if 0 ≤ x34 then (if x34 < (x32.length : Int) then (if x12 = true then ((impl_from.f (rd x32 x34) 0 (wrap64 ((x1.length : Int) - 1))).bind fun t247 => (if t247 = true then (if 0 ≤ (rd x32 x34) then (if (rd x32 x34) < (x1.length : Int) then ((impl_goes.f k ((rd_T53 x1 (rd x32 x34)).f0) ((rd_T53 x1 (rd x32 x34)).f1) ((rd_T53 x1 (rd x32 x34)).f2)).bind fun t249 => (impl_RunTo.j2 k x0 x1 x2 x12 x34 (rd x32 x34) x32 x33 x34 (!t249) x238000 x238001)) else (none)) else (none)) else (impl_RunTo.j2 k x0 x1 x2 x12 x34 (rd x32 x34) x32 x33 x34 true x238000 x238001))) else (impl_RunTo.j2 k x0 x1 x2 x12 x34 (rd x32 x34) x32 x33 x34 true x238000 x238001)) else (none)) else (none)) else (some (x0, x1, (x2.length : Int), 0))
def impl_RunTo.j2 : Nat → List Int → List (S53) → List Int → Bool → Int → Int → List Int → Int → Int → Bool → List Int → List Int → Option (List Int × (List (S53)) × Int × Int)
 | 0, _, _, _, _, _, _, _, _, _, _, _, _ => none
 | k + 1, x0, x1, x2, x12, x13, x14, x32, x33, x34, x56, x238000, x238001 => if x56 = true then (impl_RunTo.l0 k x0 x1 x2 x12 x32 x33 (wrap64 (x34 + 1)) x238000 x238001) else (if x13 > 0 then (if 0 ≤ x14 then (if x14 < (x1.length : Int) then ((slices_Contains_int_int.f k x238000 ((rd_T53 x1 x14).f1)).bind fun t251 => (impl_RunTo.j3 k x0 x1 x2 x12 x13 x14 x32 x33 x34 t251 x238000 x238001)) else (none)) else (none)) else (impl_RunTo.j3 k x0 x1 x2 x12 x13 x14 x32 x33 x34 false x238000 x238001))
def impl_RunTo.j3 : Nat → List Int → List (S53) → List Int → Bool → Int → Int → List Int → Int → Int → Bool → List Int → List Int → Option (List Int × (List (S53)) × Int × Int)
 | 0, _, _, _, _, _, _, _, _, _, _, _, _ => none
 | k + 1, x0, x1, x2, x12, x13, x14, x32, x33, x34, x68, x238000, x238001 => if x68 = true then (some (x0, x1, x13, 1)) else (if 0 ≤ x14 then (if x14 < (x1.length : Int) then ((impl_eventOf.f k x0 ((rd_T53 x1 x14).f0) ((rd_T53 x1 x14).f1) ((rd_T53 x1 x14).f2) x14).bind fun bt253 => ((impl_step.f k x0 ((rd_T53 x1 x14).f0) ((rd_T53 x1 x14).f1) ((rd_T53 x1 x14).f2)).bind fun bt260 => ((some (x1.set (x14 : Int).toNat (⟨bt260.1, bt260.2.1, bt260.2.2.1⟩ : S53) : List (S53))).bind fun y266 => (if bt253.2.2.2.2 ≥ 0 then ((slices_Contains_int_int.f k x238001 bt253.2.2.1).bind fun t267 => (impl_RunTo.j4 k bt260.2.2.2 y266 x2 x12 x13 x32 x33 x34 t267 x238000 x238001)) else (impl_RunTo.j4 k bt260.2.2.2 y266 x2 x12 x13 x32 x33 x34 false x238000 x238001))))) else (none)) else (none))
def impl_RunTo.j4 : Nat → List Int → List (S53) → List Int → Bool → Int → List Int → Int → Int → Bool → List Int → List Int → Option (List Int × (List (S53)) × Int × Int)
 | 0, _, _, _, _, _, _, _, _, _, _, _ => none
 | k + 1, x0, x1, x2, x12, x13, x32, x33, x34, x97, x238000, x238001 => if x97 = true then (some (x0, x1, wrap64 (x13 + 1), 2)) else (impl_RunTo.l0 k x0 x1 x2 x12 x32 x33 (wrap64 (x34 + 1)) x238000 x238001)
end
def impl_RunTo.f (k : Nat) (l0 : List Int) (l1 : List (S53)) (l2 : List Int) (l3_0 : List Int) (l3_1 : List Int) : Option (List Int × (List (S53)) × Int × Int) := (slices_Clone_int_int.f l0).bind fun t238 => ((impl_copyHarts.f k l1).bind fun t241 => (if (l2.length : Int) > 2000 then (impl_RunTo.j0 k t238 t241 l2 true l3_0 l3_1) else ((impl_WatchOk.f k l3_0 l3_1).bind fun t244 => (impl_RunTo.j0 k t238 t241 l2 (!t244) l3_0 l3_1))))
theorem impl_RunTo.mono_l : ∀ k, (∀ y0 y1 y2 y3 y4 y5, LeO (impl_RunTo.j0 k y0 y1 y2 y3 y4 y5) (impl_RunTo.j0 (k + 1) y0 y1 y2 y3 y4 y5)) ∧ (∀ y0 y1 y2 y3 y4 y5 y6 y7 y8, LeO (impl_RunTo.l0 k y0 y1 y2 y3 y4 y5 y6 y7 y8) (impl_RunTo.l0 (k + 1) y0 y1 y2 y3 y4 y5 y6 y7 y8)) ∧ (∀ y0 y1 y2 y3 y4 y5 y6 y7 y8 y9 y10 y11, LeO (impl_RunTo.j2 k y0 y1 y2 y3 y4 y5 y6 y7 y8 y9 y10 y11) (impl_RunTo.j2 (k + 1) y0 y1 y2 y3 y4 y5 y6 y7 y8 y9 y10 y11)) ∧ (∀ y0 y1 y2 y3 y4 y5 y6 y7 y8 y9 y10 y11, LeO (impl_RunTo.j3 k y0 y1 y2 y3 y4 y5 y6 y7 y8 y9 y10 y11) (impl_RunTo.j3 (k + 1) y0 y1 y2 y3 y4 y5 y6 y7 y8 y9 y10 y11)) ∧ (∀ y0 y1 y2 y3 y4 y5 y6 y7 y8 y9 y10, LeO (impl_RunTo.j4 k y0 y1 y2 y3 y4 y5 y6 y7 y8 y9 y10) (impl_RunTo.j4 (k + 1) y0 y1 y2 y3 y4 y5 y6 y7 y8 y9 y10))
 | 0 => ⟨fun _ _ _ _ _ _ r h => by simp [impl_RunTo.j0] at h, fun _ _ _ _ _ _ _ _ _ r h => by simp [impl_RunTo.l0] at h, fun _ _ _ _ _ _ _ _ _ _ _ _ r h => by simp [impl_RunTo.j2] at h, fun _ _ _ _ _ _ _ _ _ _ _ _ r h => by simp [impl_RunTo.j3] at h, fun _ _ _ _ _ _ _ _ _ _ _ r h => by simp [impl_RunTo.j4] at h⟩
 | k + 1 => by
  obtain ⟨ih0, ih1, ih2, ih3, ih4⟩ := impl_RunTo.mono_l k
  refine ⟨?_, ?_, ?_, ?_, ?_⟩
  ·intros
   unfold impl_RunTo.j0
   have mo0 := @impl_WatchOk.mono
   have mo1 := @impl_copyHarts.mono
   have mo2 := @impl_eventOf.mono
   have mo3 := @impl_goes.mono
   have mo4 := @impl_memOk.mono
   have mo5 := @impl_step.mono
   have mo6 := @slices_Contains_int_int.mono
   exact zL
  ·intros
   unfold impl_RunTo.l0
   have mo0 := @impl_WatchOk.mono
   have mo1 := @impl_copyHarts.mono
   have mo2 := @impl_eventOf.mono
   have mo3 := @impl_goes.mono
   have mo4 := @impl_memOk.mono
   have mo5 := @impl_step.mono
   have mo6 := @slices_Contains_int_int.mono
   exact zL
  ·intros
   unfold impl_RunTo.j2
   have mo0 := @impl_WatchOk.mono
   have mo1 := @impl_copyHarts.mono
   have mo2 := @impl_eventOf.mono
   have mo3 := @impl_goes.mono
   have mo4 := @impl_memOk.mono
   have mo5 := @impl_step.mono
   have mo6 := @slices_Contains_int_int.mono
   exact zL
  ·intros
   unfold impl_RunTo.j3
   have mo0 := @impl_WatchOk.mono
   have mo1 := @impl_copyHarts.mono
   have mo2 := @impl_eventOf.mono
   have mo3 := @impl_goes.mono
   have mo4 := @impl_memOk.mono
   have mo5 := @impl_step.mono
   have mo6 := @slices_Contains_int_int.mono
   exact zL
  ·intros
   unfold impl_RunTo.j4
   have mo0 := @impl_WatchOk.mono
   have mo1 := @impl_copyHarts.mono
   have mo2 := @impl_eventOf.mono
   have mo3 := @impl_goes.mono
   have mo4 := @impl_memOk.mono
   have mo5 := @impl_step.mono
   have mo6 := @slices_Contains_int_int.mono
   exact zL
theorem impl_RunTo.mono : ∀ a0 a1 a2 a3 a4 k, LeO (impl_RunTo.f k a0 a1 a2 a3 a4) (impl_RunTo.f (k + 1) a0 a1 a2 a3 a4) := by
 intro a0 a1 a2 a3 a4 k
 obtain ⟨ih0, ih1, ih2, ih3, ih4⟩ := impl_RunTo.mono_l k
 unfold impl_RunTo.f
 have mo0 := @impl_WatchOk.mono
 have mo1 := @impl_copyHarts.mono
 have mo2 := @impl_eventOf.mono
 have mo3 := @impl_goes.mono
 have mo4 := @impl_memOk.mono
 have mo5 := @impl_step.mono
 have mo6 := @slices_Contains_int_int.mono
 exact zL
theorem impl_RunTo.calls (k : Nat) (A0 : Option Addr) (c0 : Nat) (l0 : List Int) (A1 : Option Addr) (c1 : Nat) (l1 : List (S53)) (A2 : Option Addr) (c2 : Nat) (l2 : List Int) (A3_0 : Option Addr) (c3_0 : Nat) (l3_0 : List Int) (A3_1 : Option Addr) (c3_1 : Nat) (l3_1 : List Int) (r1 : List Int) (r2 : List (S53)) (r3 : Int) (r4 : Int) (w : World) (hr0 : Kd.C (Kd.int .i64) w A0 l0.length l0) (hc0 : l0.length ≤ c0) (hr1 : Kd.C k53 w A1 l1.length l1) (hc1 : l1.length ≤ c1) (hr2 : Kd.C (Kd.int .i64) w A2 l2.length l2) (hc2 : l2.length ≤ c2) (hr3_0 : Kd.C (Kd.int .i64) w A3_0 l3_0.length l3_0) (hc3_0 : l3_0.length ≤ c3_0) (hr3_1 : Kd.C (Kd.int .i64) w A3_1 l3_1.length l3_1) (hc3_1 : l3_1.length ≤ c3_1) (h : impl_RunTo.f k l0 l1 l2 l3_0 l3_1 = some (r1, r2, r3, r4)) :
  Calls Try.prog 9 #[.slice A0 l0.length c0, .slice A1 l1.length c1, .slice A2 l2.length c2, .agg #[.slice A3_0 l3_0.length c3_0, .slice A3_1 l3_1.length c3_1]] w fun e w' => ∃ v0_ v1_ : Value, e = .returned (.tuple #[v0_, v1_, .int .i64 r3, .int .i64 r4]) ∧ Kd.R (Kd.int .i64) 3 w' w.heap.size (fun _ => True) v0_ r1 ∧ Kd.S k53 53 w' w.heap.size (fun k_ => some k_ ≠ (v0_ : Value).ownBlock) v1_ r2 ∧ Below w.heap.size w w' := by
 have hu27 := Try.underlying27
 have hu53 := Try.underlying53
 have hu57 := Try.underlying57
 have HR0 := zM hr0
 have HC0 := zM hc0
 clear hr0 hc0
 have HR1 := zM hr1
 have HC1 := zM hc1
 clear hr1 hc1
 have HR2 := zM hr2
 have HC2 := zM hc2
 clear hr2 hc2
 have HR3_0 := zM hr3_0
 have HC3_0 := zM hc3_0
 clear hr3_0 hc3_0
 have HR3_1 := zM hr3_1
 have HC3_1 := zM hc3_1
 clear hr3_1 hc3_1
 have HB := zM (Below.refl w.heap.size w)
 unfold impl_RunTo.f at h
 have H := h
 clear h
 replace H := zO H
 obtain ⟨t238, A5, H⟩ := H
 replace H := zO H
 obtain ⟨t241, A6, H⟩ := H
 have HC7 := zM H
 clear H
 go_enter Try.func9, Try.ntmps9
 go_upto_region 3 with (first | ((with_reducible refine gate_dst (N := 7) rfl ?_); (try (refine gate_guard (by rfl) ?_; dsimp only)); (with_reducible refine zBx 7 27 #[.slice A3_0 l3_0.length c3_0, .slice A3_1 l3_1.length c3_1] ?_); intro gb237 hg w8 hbox hb; have BK237 := zM hbox; have GW237 := zM (zW hg (below_size zB1)); have GE237 := zM (zW hg (below_size zB1)); replace HB := zM (below_step zB1 hb); clear hb hbox hg) | (go_at_call 59; (with_reducible refine (slices_Clone_int_int.calls _ _ l0 t238 _ ?side1 ?side2 A5.1).mono ?_); (case side1 => exact zC (Kd.C_below HR0.1 HB.1)); (case side2 => exact HC0.1); rintro e w9 ⟨v239, rfl, ho0, hb⟩; have HO240 := zM (Kd.R_lower ho0 (below_size zB1)); replace BK237 := zM (zb BK237.1 hb); replace HB := zM (below_step zB1 hb); clear hb ho0) | (go_at_call 60; (with_reducible refine (impl_copyHarts.calls k _ _ l1 t241 _ ?side1 ?side2 A6.1).mono ?_); (case side1 => exact zC (Kd.C_below HR1.1 HB.1)); (case side2 => exact HC1.1); rintro e w10 ⟨v242, rfl, ho0, hb⟩; have HO243 := zM (Kd.S_lower (Kd.S_new' ho0 (Kd.R_lt (zR HO240.1))) (below_size zB1)); replace HO240 := zM (Kd.R_below (zR HO240.1) hb); replace BK237 := zM (zb BK237.1 hb); replace HB := zM (below_step zB1 hb); clear hb ho0))
 repeat (go_quiet (first | ((with_reducible refine gate_dst (N := 7) rfl ?_); (try (refine gate_guard (by rfl) ?_; dsimp only)); (with_reducible refine zBx 7 27 #[.slice A3_0 l3_0.length c3_0, .slice A3_1 l3_1.length c3_1] ?_); intro gb237 hg w8 hbox hb; have BK237 := zM hbox; have GW237 := zM (zW hg (below_size zB1)); have GE237 := zM (zW hg (below_size zB1)); replace HB := zM (below_step zB1 hb); clear hb hbox hg) | (go_at_call 59; (with_reducible refine (slices_Clone_int_int.calls _ _ l0 t238 _ ?side1 ?side2 A5.1).mono ?_); (case side1 => exact zC (Kd.C_below HR0.1 HB.1)); (case side2 => exact HC0.1); rintro e w9 ⟨v239, rfl, ho0, hb⟩; have HO240 := zM (Kd.R_lower ho0 (below_size zB1)); replace BK237 := zM (zb BK237.1 hb); replace HB := zM (below_step zB1 hb); clear hb ho0) | (go_at_call 60; (with_reducible refine (impl_copyHarts.calls k _ _ l1 t241 _ ?side1 ?side2 A6.1).mono ?_); (case side1 => exact zC (Kd.C_below HR1.1 HB.1)); (case side2 => exact HC1.1); rintro e w10 ⟨v242, rfl, ho0, hb⟩; have HO243 := zM (Kd.S_lower (Kd.S_new' ho0 (Kd.R_lt (zR HO240.1))) (below_size zB1)); replace HO240 := zM (Kd.R_below (zR HO240.1) hb); replace BK237 := zM (zb BK237.1 hb); replace HB := zM (below_step zB1 hb); clear hb ho0)); go_upto_region 3 with (first | ((with_reducible refine gate_dst (N := 7) rfl ?_); (try (refine gate_guard (by rfl) ?_; dsimp only)); (with_reducible refine zBx 7 27 #[.slice A3_0 l3_0.length c3_0, .slice A3_1 l3_1.length c3_1] ?_); intro gb237 hg w8 hbox hb; have BK237 := zM hbox; have GW237 := zM (zW hg (below_size zB1)); have GE237 := zM (zW hg (below_size zB1)); replace HB := zM (below_step zB1 hb); clear hb hbox hg) | (go_at_call 59; (with_reducible refine (slices_Clone_int_int.calls _ _ l0 t238 _ ?side1 ?side2 A5.1).mono ?_); (case side1 => exact zC (Kd.C_below HR0.1 HB.1)); (case side2 => exact HC0.1); rintro e w9 ⟨v239, rfl, ho0, hb⟩; have HO240 := zM (Kd.R_lower ho0 (below_size zB1)); replace BK237 := zM (zb BK237.1 hb); replace HB := zM (below_step zB1 hb); clear hb ho0) | (go_at_call 60; (with_reducible refine (impl_copyHarts.calls k _ _ l1 t241 _ ?side1 ?side2 A6.1).mono ?_); (case side1 => exact zC (Kd.C_below HR1.1 HB.1)); (case side2 => exact HC1.1); rintro e w10 ⟨v242, rfl, ho0, hb⟩; have HO243 := zM (Kd.S_lower (Kd.S_new' ho0 (Kd.R_lt (zR HO240.1))) (below_size zB1)); replace HO240 := zM (Kd.R_below (zR HO240.1) hb); replace BK237 := zM (zb BK237.1 hb); replace HB := zM (below_step zB1 hb); clear hb ho0)))
 (try simp only [Act.put, List.setIfInBounds_toArray, List.set_cons_zero, List.set_cons_succ])
 go_cut [27] (fun v27 wc => ∃ (kq : Nat) (x27_6 : Bool), v27 = .bool x27_6 ∧ Aside0 (impl_RunTo.j0 kq t238 t241 l2 x27_6 l3_0 l3_1 = some (r1, r2, r3, r4)) ∧ Aside0 (kq ≤ k) ∧ Aside0 (Kd.R (Kd.int .i64) 3 wc w.heap.size (fun _ => True) v239 t238) ∧ Aside0 (Kd.S k53 53 wc w.heap.size (fun k_ => some k_ ≠ (v239 : Value).ownBlock) v242 t241) ∧ Aside0 (wc.heap[gb237]? = some (.cells #[(.slice A3_0 l3_0.length c3_0), (.slice A3_1 l3_1.length c3_1)] 27 (0, 0))) ∧ Aside0 (Below w.heap.size w wc))
 case first =>
  have H := HC7.1
  clear HC7
  by_cases c11 : (l2.length : Int) > 2000
  ·rw [if_pos c11] at H
   have c11b0 := decide_eq_true c11
   have c11b1 : decide (2000 < l2.length) = true := decide_eq_true (by omega)
   clear c11
   (first | rw [c11b0] | (simp only [i64_w, i32_w]; rw [c11b0]) | skip)
   have H' := zM H
   clear H
   go_wp2
   repeat (go_quiet (fail); try go_wp2)
   go_meet
   case rel => exact ⟨_, (true), zJJ, H', ⟨by first | omega | exact Nat.le_refl _⟩, ⟨zR HO240.1⟩, ⟨by refine zrS ?_; exact Kd.S_mono HO243.1 (fun _ hk => hk.2)⟩, ⟨zK BK237.1⟩, ⟨zB1⟩⟩
  rw [if_neg c11] at H
  have c11b0 := decide_eq_false c11
  have c11b1 : decide (2000 < l2.length) = false := decide_eq_false (by omega)
  clear c11
  (first | rw [c11b0] | (simp only [i64_w, i32_w]; rw [c11b0]) | skip)
  replace H := zO H
  obtain ⟨t244, A12, H⟩ := H
  have H' := zM H
  clear H
  have hcz13 := zc_2 (w := w10) BK237.1
  go_wp2_with (first | (go_at_call 15; (with_reducible refine (impl_WatchOk.calls k (fun k_ => k_ < w.heap.size) _ _ l3_0 (fun k_ => k_ < w.heap.size) _ _ l3_1 t244 _ ?side1 ?side2 A12.1).mono ?_); (case side1 => exact Kd.V_mk HC3_0.1 (Kd.F_below (Kd.C_F (Kd.heap_int .i64) HR3_0.1) zB1)); (case side2 => exact Kd.V_mk HC3_1.1 (Kd.F_below (Kd.C_F (Kd.heap_int .i64) HR3_1.1) zB1)); rintro e w14 ⟨rfl, hb⟩; have n0_ := zM (Kd.R_below (zR HO240.1) hb); have n1_ := zM (Kd.S_below (zS HO243.1) hb); have n2_ := zM (zb BK237.1 hb); have n3_ := zM (below_step zB1 hb); clear HO240; clear HO243; clear BK237; clear HB; have HO240 := n0_; have HO243 := n1_; have BK237 := n2_; have HB := n3_; clear n0_ n1_ n2_ n3_; clear hb))
  repeat (go_quiet (first | (go_at_call 15; (with_reducible refine (impl_WatchOk.calls k (fun k_ => k_ < w.heap.size) _ _ l3_0 (fun k_ => k_ < w.heap.size) _ _ l3_1 t244 _ ?side1 ?side2 A12.1).mono ?_); (case side1 => exact Kd.V_mk HC3_0.1 (Kd.F_below (Kd.C_F (Kd.heap_int .i64) HR3_0.1) zB1)); (case side2 => exact Kd.V_mk HC3_1.1 (Kd.F_below (Kd.C_F (Kd.heap_int .i64) HR3_1.1) zB1)); rintro e w14 ⟨rfl, hb⟩; have n0_ := zM (Kd.R_below (zR HO240.1) hb); have n1_ := zM (Kd.S_below (zS HO243.1) hb); have n2_ := zM (zb BK237.1 hb); have n3_ := zM (below_step zB1 hb); clear HO240; clear HO243; clear BK237; clear HB; have HO240 := n0_; have HO243 := n1_; have BK237 := n2_; have HB := n3_; clear n0_ n1_ n2_ n3_; clear hb)); try go_wp2_with (first | (go_at_call 15; (with_reducible refine (impl_WatchOk.calls k (fun k_ => k_ < w.heap.size) _ _ l3_0 (fun k_ => k_ < w.heap.size) _ _ l3_1 t244 _ ?side1 ?side2 A12.1).mono ?_); (case side1 => exact Kd.V_mk HC3_0.1 (Kd.F_below (Kd.C_F (Kd.heap_int .i64) HR3_0.1) zB1)); (case side2 => exact Kd.V_mk HC3_1.1 (Kd.F_below (Kd.C_F (Kd.heap_int .i64) HR3_1.1) zB1)); rintro e w14 ⟨rfl, hb⟩; have n0_ := zM (Kd.R_below (zR HO240.1) hb); have n1_ := zM (Kd.S_below (zS HO243.1) hb); have n2_ := zM (zb BK237.1 hb); have n3_ := zM (below_step zB1 hb); clear HO240; clear HO243; clear BK237; clear HB; have HO240 := n0_; have HO243 := n1_; have BK237 := n2_; have HB := n3_; clear n0_ n1_ n2_ n3_; clear hb)))
  go_meet
  case rel => exact ⟨_, (!t244), zJJ, H', ⟨by first | omega | exact Nat.le_refl _⟩, ⟨zR HO240.1⟩, ⟨by refine zrS ?_; exact Kd.S_mono HO243.1 (fun _ hk => hk.2)⟩, ⟨zK BK237.1⟩, ⟨zB1⟩⟩
 case rest =>
  clear HC7
  obtain ⟨kq, x27_6, rfl, HA, HJ6, HO_0, HO_1, BK237, HB⟩ := hcut
  cases kq with
  | zero => exact absurd HA.1 (by simp [impl_RunTo.j0])
  | succ kj6 =>
   have H := HA.1
   clear HA
   simp only [impl_RunTo.j0] at H
   by_cases c15 : x27_6 = true
   ·subst c15
    rw [if_pos rfl] at H
    simp only [Option.some.injEq, Prod.mk.injEq] at H
    obtain ⟨rfl, rfl, rfl, rfl⟩ := H
    go_wp2
    repeat (go_quiet (fail); try go_wp2)
    refine bodyPost_ret (results_list (rs := [.tmp 8, .tmp 9, .tmp 10, .tmp 11]) rfl (by simp) (.tmp (.tmp (.tmp (.tmp .nil))))) rfl ?_
    exact ⟨_, _, zE, zR HO_0.1, zS HO_1.1, zB1⟩
   replace c15 := Bool.eq_false_iff.mpr c15
   subst c15
   rw [if_neg zF] at H
   replace H := zO H
   obtain ⟨t245, A16, H⟩ := H
   have H' := zM H
   clear H
   obtain ⟨Ao17, co17, eo17⟩ := Kd.R_slice HO_0.1
   subst eo17
   go_wp2_with (first | (go_at_call 61; (with_reducible refine (impl_memOk.calls kj6 _ _ t238 t245 _ ?side1 ?side2 A16.1).mono ?_); (case side1 => exact zC (Kd.R_reads' HO_0.1).2.2); (case side2 => exact (Kd.R_reads' HO_0.1).2.1); rintro e w' ⟨rfl, ⟨nd, rfl⟩⟩; (try first | exact ⟨rfl, _, World.drewN_drewN _ _ _⟩ | exact ⟨rfl, _, Eq.trans (World.drewN_drewN _ _ _) (congrArg (World.drewN _) (Nat.add_assoc _ _ _))⟩)))
   repeat (go_quiet (first | (go_at_call 61; (with_reducible refine (impl_memOk.calls kj6 _ _ t238 t245 _ ?side1 ?side2 A16.1).mono ?_); (case side1 => exact zC (Kd.R_reads' HO_0.1).2.2); (case side2 => exact (Kd.R_reads' HO_0.1).2.1); rintro e w' ⟨rfl, ⟨nd, rfl⟩⟩; (try first | exact ⟨rfl, _, World.drewN_drewN _ _ _⟩ | exact ⟨rfl, _, Eq.trans (World.drewN_drewN _ _ _) (congrArg (World.drewN _) (Nat.add_assoc _ _ _))⟩))); try go_wp2_with (first | (go_at_call 61; (with_reducible refine (impl_memOk.calls kj6 _ _ t238 t245 _ ?side1 ?side2 A16.1).mono ?_); (case side1 => exact zC (Kd.R_reads' HO_0.1).2.2); (case side2 => exact (Kd.R_reads' HO_0.1).2.1); rintro e w' ⟨rfl, ⟨nd, rfl⟩⟩; (try first | exact ⟨rfl, _, World.drewN_drewN _ _ _⟩ | exact ⟨rfl, _, Eq.trans (World.drewN_drewN _ _ _) (congrArg (World.drewN _) (Nat.add_assoc _ _ _))⟩))))
   go_loopg [34] kj6 (fun kq v34 w' => ∃ (x0_2 : List Int) (x1_2 : List (S53)) (x34_2 : Int), v34 = .int .i64 x34_2 ∧ Aside0 (impl_RunTo.l0 kq x0_2 x1_2 l2 t245 l2 (l2.length : Int) x34_2 l3_0 l3_1 = some (r1, r2, r3, r4)) ∧ Aside0 (kq ≤ kj6) ∧ Aside0 (Kd.R (Kd.int .i64) 3 w' w.heap.size (fun _ => True) (.slice Ao17 t238.length co17) x0_2) ∧ Aside0 (Kd.S k53 53 w' w.heap.size (fun k_ => some k_ ≠ ((.slice Ao17 t238.length co17) : Value).ownBlock) v242 x1_2) ∧ Aside0 (w'.heap[gb237]? = some (.cells #[(.slice A3_0 l3_0.length c3_0), (.slice A3_1 l3_1.length c3_1)] 27 (0, 0))) ∧ Aside0 (Below w.heap.size w w'))
   case atStart => exact ⟨(t238), (t241), (0), zJJ, H', ⟨Nat.le_refl _⟩, ⟨zR HO_0.1⟩, ⟨zS HO_1.1⟩, ⟨zK BK237.1⟩, ⟨zB1⟩⟩
   case round =>
    clear H'
    obtain ⟨x0_2, x1_2, x34_2, rfl, HA, HK2, HO_0, HO_1, BK237, HB⟩ := hrel
    have hl0_2 := (Kd.R_reads' HO_0.1).1
    rw [hl0_2] at HO_0
    (try simp only [hl0_2])
    (try simp only [hl0_2] at BK237)
    (try simp only [hl0_2] at HO_1)
    cases gk with
    | zero => exact absurd HA.1 (by simp [impl_RunTo.l0])
    | succ k2 =>
     have H := HA.1
     clear HA
     simp only [impl_RunTo.l0] at H
     by_cases c18 : x34_2 < (l2.length : Int)
     rotate_left
     ·rw [if_neg c18] at H
      have c18b0 := decide_eq_false c18
      (try (have c18b0_ := c18b0; simp only [hl0_2] at c18b0_))
      clear c18
      simp only [Option.some.injEq, Prod.mk.injEq] at H
      obtain ⟨rfl, rfl, rfl, rfl⟩ := H
      go_wp2
      repeat (go_quiet (fail); try go_wp2)
      refine bodyPost_ret (results_list (rs := [.tmp 8, .tmp 9, .tmp 10, .tmp 11]) rfl (by simp) (.tmp (.tmp (.tmp (.tmp .nil))))) rfl ?_
      exact ⟨_, _, zE, zR HO_0.1, zS HO_1.1, zB1⟩
     rw [if_pos c18] at H
     have c18b0 := decide_eq_true c18
     (try (have c18b0_ := c18b0; simp only [hl0_2] at c18b0_))
     clear c18
     replace H := zIt H
     obtain ⟨c19b0, H⟩ := H
     replace H := zIp H
     obtain ⟨c20, H⟩ := H
     have c20b0 := decide_eq_true c20
     (try (have c20b0_ := c20b0; simp only [hl0_2] at c20b0_))
     clear c20
     have HC21 := zM H
     clear H
     obtain ⟨p246, q246, ad246, e246, hx246_0⟩ := zRd (Kd.at_int HR2.1 x34_2)
     cases e246
     replace hx246_0 := zHx HB.1 hx246_0
     go_upto_region 9 with (fail)
     repeat (go_quiet (fail); go_upto_region 9 with (fail))
     go_cut [56] (fun v56 wc => ∃ (kq : Nat) (x56_20 : Bool), v56 = .bool x56_20 ∧ Aside0 (impl_RunTo.j2 kq x0_2 x1_2 l2 t245 x34_2 (rd l2 x34_2) l2 (l2.length : Int) x34_2 x56_20 l3_0 l3_1 = some (r1, r2, r3, r4)) ∧ Aside0 (kq ≤ k2) ∧ Aside0 (Kd.R (Kd.int .i64) 3 wc w.heap.size (fun _ => True) (.slice Ao17 x0_2.length co17) x0_2) ∧ Aside0 (Kd.S k53 53 wc w.heap.size (fun k_ => some k_ ≠ ((.slice Ao17 x0_2.length co17) : Value).ownBlock) v242 x1_2) ∧ Aside0 (wc.heap[gb237]? = some (.cells #[(.slice A3_0 l3_0.length c3_0), (.slice A3_1 l3_1.length c3_1)] 27 (0, 0))) ∧ Aside0 (Below w.heap.size w wc))
     case first =>
      have H := HC21.1
      clear HC21
      by_cases c22 : t245 = true
      rotate_left
      ·replace c22 := Bool.eq_false_iff.mpr c22
       subst c22
       rw [if_neg zF] at H
       have H' := zM H
       clear H
       go_wp2
       repeat (go_quiet (fail); try go_wp2)
       go_meet
       case rel => exact ⟨_, (true), zJJ, H', ⟨by have := HJ6.1; have := HK2.1; first | omega | exact Nat.le_refl _⟩, ⟨by (try simp only [hl0_2]); (with_reducible repeat (first | apply Kd.R_alloc | apply Kd.R_drewN | apply Kd.R_drew)); exact HO_0.1⟩, ⟨by (try simp only [hl0_2]); (with_reducible repeat (first | apply Kd.S_alloc | apply Kd.S_drewN | apply Kd.S_drew)); exact HO_1.1⟩, ⟨by (try simp only [hl0_2]); refine zP ?_; exact BK237.1⟩, ⟨zB1⟩⟩
      subst c22
      rw [if_pos rfl] at H
      replace H := zO H
      obtain ⟨t247, A23, H⟩ := H
      by_cases c24 : t247 = true
      rotate_left
      ·replace c24 := Bool.eq_false_iff.mpr c24
       subst c24
       rw [if_neg zF] at H
       have H' := zM H
       clear H
       obtain ⟨Ao30, co30, eo30⟩ := Kd.S_slice HO_1.1
       subst eo30
       go_wp2_with (first | (go_at_call 62; (with_reducible refine (impl_from.calls (rd l2 x34_2) 0 (wrap64 ((x1_2.length : Int) - 1)) false _ A23.1).mono ?_); rintro e w' ⟨rfl, ⟨nd, rfl⟩⟩; (try first | exact ⟨rfl, _, World.drewN_drewN _ _ _⟩ | exact ⟨rfl, _, Eq.trans (World.drewN_drewN _ _ _) (congrArg (World.drewN _) (Nat.add_assoc _ _ _))⟩)))
       repeat (go_quiet (first | (go_at_call 62; (with_reducible refine (impl_from.calls (rd l2 x34_2) 0 (wrap64 ((x1_2.length : Int) - 1)) false _ A23.1).mono ?_); rintro e w' ⟨rfl, ⟨nd, rfl⟩⟩; (try first | exact ⟨rfl, _, World.drewN_drewN _ _ _⟩ | exact ⟨rfl, _, Eq.trans (World.drewN_drewN _ _ _) (congrArg (World.drewN _) (Nat.add_assoc _ _ _))⟩))); try go_wp2_with (first | (go_at_call 62; (with_reducible refine (impl_from.calls (rd l2 x34_2) 0 (wrap64 ((x1_2.length : Int) - 1)) false _ A23.1).mono ?_); rintro e w' ⟨rfl, ⟨nd, rfl⟩⟩; (try first | exact ⟨rfl, _, World.drewN_drewN _ _ _⟩ | exact ⟨rfl, _, Eq.trans (World.drewN_drewN _ _ _) (congrArg (World.drewN _) (Nat.add_assoc _ _ _))⟩))))
       go_meet
       case rel => exact ⟨_, (true), zJJ, H', ⟨by have := HJ6.1; have := HK2.1; first | omega | exact Nat.le_refl _⟩, ⟨by (try simp only [hl0_2]); (with_reducible repeat (first | apply Kd.R_alloc | apply Kd.R_drewN | apply Kd.R_drew)); exact HO_0.1⟩, ⟨by (try simp only [hl0_2]); (with_reducible repeat (first | apply Kd.S_alloc | apply Kd.S_drewN | apply Kd.S_drew)); exact HO_1.1⟩, ⟨by (try simp only [hl0_2]); refine zP ?_; exact BK237.1⟩, ⟨zB1⟩⟩
      subst c24
      rw [if_pos rfl] at H
      replace H := zIt H
      obtain ⟨c25b0, H⟩ := H
      (first | rw [c25b0] | (simp only [i64_w, i32_w]; rw [c25b0]) | skip)
      replace H := zIp H
      obtain ⟨c26, H⟩ := H
      have c26b0 := decide_eq_true c26
      (try (have c26b0_ := c26b0; simp only [hl0_2] at c26b0_))
      clear c26
      replace H := zO H
      obtain ⟨t249, A27, H⟩ := H
      have H' := zM H
      clear H
      obtain ⟨Ao28, co28, eo28⟩ := Kd.S_slice HO_1.1
      subst eo28
      go_wp2_with (first | (go_at_call 62; (with_reducible refine (impl_from.calls (rd l2 x34_2) 0 (wrap64 ((x1_2.length : Int) - 1)) true _ A23.1).mono ?_); rintro e w' ⟨rfl, ⟨nd, rfl⟩⟩; (try first | exact ⟨rfl, _, World.drewN_drewN _ _ _⟩ | exact ⟨rfl, _, Eq.trans (World.drewN_drewN _ _ _) (congrArg (World.drewN _) (Nat.add_assoc _ _ _))⟩); obtain ⟨p248, q248, ad248, A248_0, c248_0, e248, hx248_0, hx248_1, hx248_2, hl248_0, hi248_0⟩ := zRd (at_T53 (Kd.S_reads' HO_1.1).2.2 (rd l2 x34_2)); cases e248; obtain ⟨ce248, hce248, hMe248, hcc248⟩ := Kd.S_get HO_1.1 z53 (rd l2 x34_2) zA (by first | exact zA | (have e_ := (Kd.S_reads' HO_1.1).1; omega)); obtain ⟨ve248_0, rfl, ge248_0⟩ := k53_openM hMe248; have hv248_0 := hcc248 0 _ rfl; rw [Nat.add_zero] at hv248_0; replace hv248_0 := Option.some.inj (hv248_0.symm.trans hx248_0); rw [hv248_0] at ge248_0; have HL248_0 := zM (show Kd.R (Kd.int .i64) 3 _ _ _ _ ((rd_T53 x1_2 (rd l2 x34_2)).f0) from ge248_0); clear hv248_0 ge248_0; clear hcc248 hce248; have HR248_0 := zM hi248_0; have HC248_0 := zM hl248_0; clear hi248_0 hl248_0) | (go_at_call 63; (with_reducible refine (impl_goes.calls k2 _ _ ((rd_T53 x1_2 (rd l2 x34_2)).f0) ((rd_T53 x1_2 (rd l2 x34_2)).f1) ((rd_T53 x1_2 (rd l2 x34_2)).f2) t249 _ ?side1 ?side2 A27.1).mono ?_); (case side1 => exact zC HR248_0.1); (case side2 => exact HC248_0.1); rintro e w29 ⟨rfl, hb⟩; have n0_ := zM (Kd.R_below (zR HO_0.1) hb); have n1_ := zM (Kd.S_below (zS HO_1.1) hb); have n2_ := zM (Kd.R_below (zR HL248_0.1) hb); have n3_ := zM (zb BK237.1 hb); have n4_ := zM (Kd.C_below (zC HR248_0.1) hb); have n5_ := zM (below_step zB1 hb); clear HO_0; clear HO_1; clear HL248_0; clear BK237; clear HR248_0; clear HB; have HO_0 := n0_; have HO_1 := n1_; have HL248_0 := n2_; have BK237 := n3_; have HR248_0 := n4_; have HB := n5_; clear n0_ n1_ n2_ n3_ n4_ n5_; clear hb))
      repeat (go_quiet (first | (go_at_call 62; (with_reducible refine (impl_from.calls (rd l2 x34_2) 0 (wrap64 ((x1_2.length : Int) - 1)) true _ A23.1).mono ?_); rintro e w' ⟨rfl, ⟨nd, rfl⟩⟩; (try first | exact ⟨rfl, _, World.drewN_drewN _ _ _⟩ | exact ⟨rfl, _, Eq.trans (World.drewN_drewN _ _ _) (congrArg (World.drewN _) (Nat.add_assoc _ _ _))⟩); obtain ⟨p248, q248, ad248, A248_0, c248_0, e248, hx248_0, hx248_1, hx248_2, hl248_0, hi248_0⟩ := zRd (at_T53 (Kd.S_reads' HO_1.1).2.2 (rd l2 x34_2)); cases e248; obtain ⟨ce248, hce248, hMe248, hcc248⟩ := Kd.S_get HO_1.1 z53 (rd l2 x34_2) zA (by first | exact zA | (have e_ := (Kd.S_reads' HO_1.1).1; omega)); obtain ⟨ve248_0, rfl, ge248_0⟩ := k53_openM hMe248; have hv248_0 := hcc248 0 _ rfl; rw [Nat.add_zero] at hv248_0; replace hv248_0 := Option.some.inj (hv248_0.symm.trans hx248_0); rw [hv248_0] at ge248_0; have HL248_0 := zM (show Kd.R (Kd.int .i64) 3 _ _ _ _ ((rd_T53 x1_2 (rd l2 x34_2)).f0) from ge248_0); clear hv248_0 ge248_0; clear hcc248 hce248; have HR248_0 := zM hi248_0; have HC248_0 := zM hl248_0; clear hi248_0 hl248_0) | (go_at_call 63; (with_reducible refine (impl_goes.calls k2 _ _ ((rd_T53 x1_2 (rd l2 x34_2)).f0) ((rd_T53 x1_2 (rd l2 x34_2)).f1) ((rd_T53 x1_2 (rd l2 x34_2)).f2) t249 _ ?side1 ?side2 A27.1).mono ?_); (case side1 => exact zC HR248_0.1); (case side2 => exact HC248_0.1); rintro e w29 ⟨rfl, hb⟩; have n0_ := zM (Kd.R_below (zR HO_0.1) hb); have n1_ := zM (Kd.S_below (zS HO_1.1) hb); have n2_ := zM (Kd.R_below (zR HL248_0.1) hb); have n3_ := zM (zb BK237.1 hb); have n4_ := zM (Kd.C_below (zC HR248_0.1) hb); have n5_ := zM (below_step zB1 hb); clear HO_0; clear HO_1; clear HL248_0; clear BK237; clear HR248_0; clear HB; have HO_0 := n0_; have HO_1 := n1_; have HL248_0 := n2_; have BK237 := n3_; have HR248_0 := n4_; have HB := n5_; clear n0_ n1_ n2_ n3_ n4_ n5_; clear hb)); try go_wp2_with (first | (go_at_call 62; (with_reducible refine (impl_from.calls (rd l2 x34_2) 0 (wrap64 ((x1_2.length : Int) - 1)) true _ A23.1).mono ?_); rintro e w' ⟨rfl, ⟨nd, rfl⟩⟩; (try first | exact ⟨rfl, _, World.drewN_drewN _ _ _⟩ | exact ⟨rfl, _, Eq.trans (World.drewN_drewN _ _ _) (congrArg (World.drewN _) (Nat.add_assoc _ _ _))⟩); obtain ⟨p248, q248, ad248, A248_0, c248_0, e248, hx248_0, hx248_1, hx248_2, hl248_0, hi248_0⟩ := zRd (at_T53 (Kd.S_reads' HO_1.1).2.2 (rd l2 x34_2)); cases e248; obtain ⟨ce248, hce248, hMe248, hcc248⟩ := Kd.S_get HO_1.1 z53 (rd l2 x34_2) zA (by first | exact zA | (have e_ := (Kd.S_reads' HO_1.1).1; omega)); obtain ⟨ve248_0, rfl, ge248_0⟩ := k53_openM hMe248; have hv248_0 := hcc248 0 _ rfl; rw [Nat.add_zero] at hv248_0; replace hv248_0 := Option.some.inj (hv248_0.symm.trans hx248_0); rw [hv248_0] at ge248_0; have HL248_0 := zM (show Kd.R (Kd.int .i64) 3 _ _ _ _ ((rd_T53 x1_2 (rd l2 x34_2)).f0) from ge248_0); clear hv248_0 ge248_0; clear hcc248 hce248; have HR248_0 := zM hi248_0; have HC248_0 := zM hl248_0; clear hi248_0 hl248_0) | (go_at_call 63; (with_reducible refine (impl_goes.calls k2 _ _ ((rd_T53 x1_2 (rd l2 x34_2)).f0) ((rd_T53 x1_2 (rd l2 x34_2)).f1) ((rd_T53 x1_2 (rd l2 x34_2)).f2) t249 _ ?side1 ?side2 A27.1).mono ?_); (case side1 => exact zC HR248_0.1); (case side2 => exact HC248_0.1); rintro e w29 ⟨rfl, hb⟩; have n0_ := zM (Kd.R_below (zR HO_0.1) hb); have n1_ := zM (Kd.S_below (zS HO_1.1) hb); have n2_ := zM (Kd.R_below (zR HL248_0.1) hb); have n3_ := zM (zb BK237.1 hb); have n4_ := zM (Kd.C_below (zC HR248_0.1) hb); have n5_ := zM (below_step zB1 hb); clear HO_0; clear HO_1; clear HL248_0; clear BK237; clear HR248_0; clear HB; have HO_0 := n0_; have HO_1 := n1_; have HL248_0 := n2_; have BK237 := n3_; have HR248_0 := n4_; have HB := n5_; clear n0_ n1_ n2_ n3_ n4_ n5_; clear hb)))
      go_meet
      case rel => exact ⟨_, (!t249), zJJ, H', ⟨by have := HJ6.1; have := HK2.1; first | omega | exact Nat.le_refl _⟩, ⟨by (try simp only [hl0_2]); (with_reducible repeat (first | apply Kd.R_alloc | apply Kd.R_drewN | apply Kd.R_drew)); exact HO_0.1⟩, ⟨by (try simp only [hl0_2]); (with_reducible repeat (first | apply Kd.S_alloc | apply Kd.S_drewN | apply Kd.S_drew)); exact HO_1.1⟩, ⟨by (try simp only [hl0_2]); refine zP ?_; exact BK237.1⟩, ⟨zB1⟩⟩
     case rest =>
      clear HC21
      obtain ⟨kq, x56_20, rfl, HA, HJ20, HO_0, HO_1, BK237, HB⟩ := hcut
      cases kq with
      | zero => exact absurd HA.1 (by simp [impl_RunTo.j2])
      | succ kj20 =>
       have H := HA.1
       clear HA
       simp only [impl_RunTo.j2] at H
       by_cases c31 : x56_20 = true
       ·subst c31
        rw [if_pos rfl] at H
        have H' := zM H
        clear H
        go_wp2
        repeat (go_quiet (fail); try go_wp2)
        (try simp only [← hl0_2])
        go_roundg kj20
        case measure => have := HJ6.1; have := HK2.1; have := HJ20.1; omega
        case rel => exact ⟨(x0_2), (x1_2), (wrap64 (x34_2 + 1)), zJJ, H', ⟨by have := HJ6.1; have := HK2.1; have := HJ20.1; omega⟩, ⟨by (try simp only [hl0_2]); (with_reducible repeat (first | apply Kd.R_alloc | apply Kd.R_drewN | apply Kd.R_drew)); exact HO_0.1⟩, ⟨by (try simp only [hl0_2]); (with_reducible repeat (first | apply Kd.S_alloc | apply Kd.S_drewN | apply Kd.S_drew)); exact HO_1.1⟩, ⟨by (try simp only [hl0_2]); refine zP ?_; exact BK237.1⟩, ⟨zB1⟩⟩
       replace c31 := Bool.eq_false_iff.mpr c31
       subst c31
       rw [if_neg zF] at H
       have HC32 := zM H
       clear H
       go_upto_region 10 with (fail)
       repeat (go_quiet (fail); go_upto_region 10 with (fail))
       go_cut [68] (fun v68 wc => ∃ (kq : Nat) (x68_31 : Bool), v68 = .bool x68_31 ∧ Aside0 (impl_RunTo.j3 kq x0_2 x1_2 l2 t245 x34_2 (rd l2 x34_2) l2 (l2.length : Int) x34_2 x68_31 l3_0 l3_1 = some (r1, r2, r3, r4)) ∧ Aside0 (kq ≤ kj20) ∧ Aside0 (Kd.R (Kd.int .i64) 3 wc w.heap.size (fun _ => True) (.slice Ao17 x0_2.length co17) x0_2) ∧ Aside0 (Kd.S k53 53 wc w.heap.size (fun k_ => some k_ ≠ ((.slice Ao17 x0_2.length co17) : Value).ownBlock) v242 x1_2) ∧ Aside0 (wc.heap[gb237]? = some (.cells #[(.slice A3_0 l3_0.length c3_0), (.slice A3_1 l3_1.length c3_1)] 27 (0, 0))) ∧ Aside0 (Below w.heap.size w wc))
       case first =>
        have H := HC32.1
        clear HC32
        by_cases c33 : x34_2 > 0
        rotate_left
        ·rw [if_neg c33] at H
         have c33b0 := decide_eq_false c33
         clear c33
         (first | rw [c33b0] | (simp only [i64_w, i32_w]; rw [c33b0]) | skip)
         have H' := zM H
         clear H
         go_wp2
         repeat (go_quiet (fail); try go_wp2)
         go_meet
         case rel => exact ⟨_, (false), zJJ, H', ⟨by have := HJ6.1; have := HK2.1; have := HJ20.1; first | omega | exact Nat.le_refl _⟩, ⟨by (try simp only [hl0_2]); (with_reducible repeat (first | apply Kd.R_alloc | apply Kd.R_drewN | apply Kd.R_drew)); exact HO_0.1⟩, ⟨by (try simp only [hl0_2]); (with_reducible repeat (first | apply Kd.S_alloc | apply Kd.S_drewN | apply Kd.S_drew)); exact HO_1.1⟩, ⟨by (try simp only [hl0_2]); refine zP ?_; exact BK237.1⟩, ⟨zB1⟩⟩
        rw [if_pos c33] at H
        have c33b0 := decide_eq_true c33
        clear c33
        (first | rw [c33b0] | (simp only [i64_w, i32_w]; rw [c33b0]) | skip)
        replace H := zIt H
        obtain ⟨c34b0, H⟩ := H
        replace H := zIp H
        obtain ⟨c35, H⟩ := H
        have c35b0 := decide_eq_true c35
        (try (have c35b0_ := c35b0; simp only [hl0_2] at c35b0_))
        clear c35
        replace H := zO H
        obtain ⟨t251, A36, H⟩ := H
        have H' := zM H
        clear H
        have hcz37 := zc_2 (w := wc) BK237.1
        obtain ⟨Ao38, co38, eo38⟩ := Kd.S_slice HO_1.1
        subst eo38
        obtain ⟨p250, q250, ad250, A250_0, c250_0, e250, hx250_0, hx250_1, hx250_2, hl250_0, hi250_0⟩ := zRd (at_T53 (Kd.S_reads' HO_1.1).2.2 (rd l2 x34_2))
        cases e250
        obtain ⟨ce250, hce250, hMe250, hcc250⟩ := Kd.S_get HO_1.1 z53 (rd l2 x34_2) zA (by first | exact zA | (have e_ := (Kd.S_reads' HO_1.1).1; omega))
        obtain ⟨ve250_0, rfl, ge250_0⟩ := k53_openM hMe250
        have hv250_0 := hcc250 0 _ rfl
        rw [Nat.add_zero] at hv250_0
        replace hv250_0 := Option.some.inj (hv250_0.symm.trans hx250_0)
        rw [hv250_0] at ge250_0
        have HL250_0 := zM (show Kd.R (Kd.int .i64) 3 _ _ _ _ ((rd_T53 x1_2 (rd l2 x34_2)).f0) from ge250_0)
        clear hv250_0 ge250_0 hcc250 hce250
        have HR250_0 := zM hi250_0
        have HC250_0 := zM hl250_0
        clear hi250_0 hl250_0
        go_wp2_with (first | (go_at_call 64; (with_reducible refine (slices_Contains_int_int.calls kj20 _ _ l3_0 ((rd_T53 x1_2 (rd l2 x34_2)).f1) t251 _ ?side1 ?side2 A36.1).mono ?_); (case side1 => exact zC (Kd.C_below HR3_0.1 HB.1)); (case side2 => exact HC3_0.1); rintro e w' ⟨rfl, ⟨nd, rfl⟩⟩; (try first | exact ⟨rfl, _, World.drewN_drewN _ _ _⟩ | exact ⟨rfl, _, Eq.trans (World.drewN_drewN _ _ _) (congrArg (World.drewN _) (Nat.add_assoc _ _ _))⟩)))
        repeat (go_quiet (first | (go_at_call 64; (with_reducible refine (slices_Contains_int_int.calls kj20 _ _ l3_0 ((rd_T53 x1_2 (rd l2 x34_2)).f1) t251 _ ?side1 ?side2 A36.1).mono ?_); (case side1 => exact zC (Kd.C_below HR3_0.1 HB.1)); (case side2 => exact HC3_0.1); rintro e w' ⟨rfl, ⟨nd, rfl⟩⟩; (try first | exact ⟨rfl, _, World.drewN_drewN _ _ _⟩ | exact ⟨rfl, _, Eq.trans (World.drewN_drewN _ _ _) (congrArg (World.drewN _) (Nat.add_assoc _ _ _))⟩))); try go_wp2_with (first | (go_at_call 64; (with_reducible refine (slices_Contains_int_int.calls kj20 _ _ l3_0 ((rd_T53 x1_2 (rd l2 x34_2)).f1) t251 _ ?side1 ?side2 A36.1).mono ?_); (case side1 => exact zC (Kd.C_below HR3_0.1 HB.1)); (case side2 => exact HC3_0.1); rintro e w' ⟨rfl, ⟨nd, rfl⟩⟩; (try first | exact ⟨rfl, _, World.drewN_drewN _ _ _⟩ | exact ⟨rfl, _, Eq.trans (World.drewN_drewN _ _ _) (congrArg (World.drewN _) (Nat.add_assoc _ _ _))⟩))))
        go_meet
        case rel => exact ⟨_, (t251), zJJ, H', ⟨by have := HJ6.1; have := HK2.1; have := HJ20.1; first | omega | exact Nat.le_refl _⟩, ⟨by (try simp only [hl0_2]); (with_reducible repeat (first | apply Kd.R_alloc | apply Kd.R_drewN | apply Kd.R_drew)); exact HO_0.1⟩, ⟨by (try simp only [hl0_2]); (with_reducible repeat (first | apply Kd.S_alloc | apply Kd.S_drewN | apply Kd.S_drew)); exact HO_1.1⟩, ⟨by (try simp only [hl0_2]); refine zP ?_; exact BK237.1⟩, ⟨zB1⟩⟩
       case rest =>
        clear HC32
        obtain ⟨kq, x68_31, rfl, HA, HJ31, HO_0, HO_1, BK237, HB⟩ := hcut
        cases kq with
        | zero => exact absurd HA.1 (by simp [impl_RunTo.j3])
        | succ kj31 =>
         have H := HA.1
         clear HA
         simp only [impl_RunTo.j3] at H
         by_cases c39 : x68_31 = true
         ·subst c39
          rw [if_pos rfl] at H
          simp only [Option.some.injEq, Prod.mk.injEq] at H
          obtain ⟨rfl, rfl, rfl, rfl⟩ := H
          go_wp2
          repeat (go_quiet (fail); try go_wp2)
          refine bodyPost_ret (results_list (rs := [.tmp 8, .tmp 9, .tmp 10, .tmp 11]) rfl (by simp) (.tmp (.tmp (.tmp (.tmp .nil))))) rfl ?_
          exact ⟨_, _, zE, zR HO_0.1, zS HO_1.1, zB1⟩
         replace c39 := Bool.eq_false_iff.mpr c39
         subst c39
         rw [if_neg zF] at H
         replace H := zIt H
         obtain ⟨c40b0, H⟩ := H
         replace H := zIp H
         obtain ⟨c41, H⟩ := H
         have c41b0 := decide_eq_true c41
         (try (have c41b0_ := c41b0; simp only [hl0_2] at c41b0_))
         clear c41
         replace H := zO H
         obtain ⟨⟨t253, t254, t255, t256, t257⟩, A42, H⟩ := H
         try dsimp only at H
         replace H := zO H
         obtain ⟨⟨t260, t263, t264, t265⟩, A43, H⟩ := H
         try dsimp only at H
         replace H := zY H
         obtain ⟨y266, Ny266, H⟩ := H
         have HC45 := zM H
         clear H
         obtain ⟨Ao46, co46, eo46⟩ := Kd.S_slice HO_1.1
         subst eo46
         obtain ⟨p252, q252, ad252, A252_0, c252_0, e252, hx252_0, hx252_1, hx252_2, hl252_0, hi252_0⟩ := zRd (at_T53 (Kd.S_reads' HO_1.1).2.2 (rd l2 x34_2))
         cases e252
         obtain ⟨ce252, hce252, hMe252, hcc252⟩ := Kd.S_get HO_1.1 z53 (rd l2 x34_2) zA (by first | exact zA | (have e_ := (Kd.S_reads' HO_1.1).1; omega))
         obtain ⟨ve252_0, rfl, ge252_0⟩ := k53_openM hMe252
         have hv252_0 := hcc252 0 _ rfl
         rw [Nat.add_zero] at hv252_0
         replace hv252_0 := Option.some.inj (hv252_0.symm.trans hx252_0)
         rw [hv252_0] at ge252_0
         have HL252_0 := zM (show Kd.R (Kd.int .i64) 3 _ _ _ _ ((rd_T53 x1_2 (rd l2 x34_2)).f0) from ge252_0)
         clear hv252_0 ge252_0 hcc252 hce252
         have HR252_0 := zM hi252_0
         have HC252_0 := zM hl252_0
         clear hi252_0 hl252_0
         go_upto_region 14 with (first | (go_at_call 65; (with_reducible refine (impl_eventOf.calls kj31 _ _ x0_2 _ _ ((rd_T53 x1_2 (rd l2 x34_2)).f0) ((rd_T53 x1_2 (rd l2 x34_2)).f1) ((rd_T53 x1_2 (rd l2 x34_2)).f2) (rd l2 x34_2) t253 t254 t255 t256 t257 _ ?side1 ?side2 ?side3 ?side4 A42.1).mono ?_); (case side1 => exact zC (Kd.R_reads' HO_0.1).2.2); (case side2 => exact (Kd.R_reads' HO_0.1).2.1); (case side3 => exact zC HR252_0.1); (case side4 => exact HC252_0.1); rintro e w47 ⟨rfl, hb⟩; have n0_ := zM (Kd.R_below (zR HO_0.1) hb); have n1_ := zM (Kd.S_below (zS HO_1.1) hb); have n2_ := zM (Kd.R_below (zR HL252_0.1) hb); have n3_ := zM (zb BK237.1 hb); have n4_ := zM (Kd.C_below (zC HR252_0.1) hb); have n5_ := zM (below_step zB1 hb); clear HO_0; clear HO_1; clear HL252_0; clear BK237; clear HR252_0; clear HB; have HO_0 := n0_; have HO_1 := n1_; have HL252_0 := n2_; have BK237 := n3_; have HR252_0 := n4_; have HB := n5_; clear n0_ n1_ n2_ n3_ n4_ n5_; clear hb) | ((with_reducible refine gate_dst (N := 15) rfl ?_); (try (refine gate_guard (by rfl) ?_; dsimp only)); (with_reducible refine zBx 15 57 #[.int .i64 0, .int .i64 0, .int .i64 0, .int .i64 0, .int .i64 0] ?_); intro gb258 hg w48 hbox hb; have n0_ := zM (Kd.R_below (zR HO_0.1) hb); have n1_ := zM (Kd.S_below (zS HO_1.1) hb); have n2_ := zM (Kd.R_below (zR HL252_0.1) hb); have n3_ := zM (zb BK237.1 hb); have n4_ := zM (Kd.C_below (zC HR252_0.1) hb); have n5_ := zM (below_step zB1 hb); have n6_ := zM hbox; have n7_ := zM (zW hg (below_size zB1)); have n8_ := zM (zW hg (below_size zB1)); have n9_ := zM ((zn BK237.1 hg : gb237 ≠ gb258)); have n10_ := zM ((zm BK237.1 hg : gb258 ≠ gb237)); clear HO_0; clear HO_1; clear HL252_0; clear BK237; clear HR252_0; clear HB; have HO_0 := n0_; have HO_1 := n1_; have HL252_0 := n2_; have BK237 := n3_; have HR252_0 := n4_; have HB := n5_; have BK258 := n6_; have GW258 := n7_; have GE258 := n8_; have NB237_258 := n9_; have NB258_237 := n10_; clear n0_ n1_ n2_ n3_ n4_ n5_ n6_ n7_ n8_ n9_ n10_; clear hb hbox hg; have hnb49 := NB258_237.1; have hnc49 := NB237_258.1; have hcz50 := zc_5 (w := w48) BK258.1) | ((with_reducible refine gate_store (t := 57) (p := 15) rfl ?_); (try (rw [drewN_self w48]; generalize hq_ : World.drewN w48 _ = w48; have n0_ := zM (Kd.R_at hq_ HO_0.1); have n1_ := zM (Kd.S_at hq_ HO_1.1); have n2_ := zM (Kd.R_at hq_ HL252_0.1); have n3_ := zM (blk_at hq_ BK237.1); have n4_ := zM (blk_at hq_ BK258.1); have n5_ := zM (Kd.C_at hq_ HR252_0.1); have n6_ := zM (below_at hq_ HB.1); clear hq_ HO_0 HO_1 HL252_0 BK237 BK258 HR252_0 HB; have HO_0 := n0_; have HO_1 := n1_; have HL252_0 := n2_; have BK237 := n3_; have BK258 := n4_; have HR252_0 := n5_; have HB := n6_; clear n0_ n1_ n2_ n3_ n4_ n5_ n6_)); refine store_event (t := 57) (p := 15) (v := ?vo_w51) (w1 := (((((w48.setCell ⟨gb258, 0, none⟩ (.int .i64 t253)).setCell ⟨gb258, 1, none⟩ (.int .i64 t254)).setCell ⟨gb258, 2, none⟩ (.int .i64 t255)).setCell ⟨gb258, 3, none⟩ (.int .i64 t256)).setCell ⟨gb258, 4, none⟩ (.int .i64 t257))) ?hg ?ho ?hn ?hr ?_; (case ho => rfl); (case hg => rfl); (case hn => rfl); (case hr => exact zHH); intro w51 hw; have n0_ : Aside0 (Kd.R (Kd.int .i64) 3 w51 w.heap.size (fun _ => True) (.slice Ao17 x0_2.length co17) x0_2) := ⟨(by rw [hw]; exact (by refine zrR ?_; exact Kd.R_mono (zfR (zfR (zfR (zfR (zfR (Kd.R_types HO_0.1 BK258.1 (by decide))))))) (fun _ hk => trivial)))⟩; have n1_ : Aside0 (Kd.S k53 53 w51 w.heap.size (fun k_ => some k_ ≠ (.slice Ao17 x0_2.length co17 : Value).ownBlock) (.slice (some ad252) x1_2.length co46) x1_2) := ⟨(by rw [hw]; exact (by refine zrS ?_; exact Kd.S_mono (zfS (zfS (zfS (zfS (zfS (Kd.S_types HO_1.1 BK258.1 (by decide))))))) (fun _ hk => hk.1)))⟩; have n2_ : Aside0 (Kd.R (Kd.int .i64) 3 w51 w.heap.size (fun k_ => some k_ ≠ (.slice Ao17 x0_2.length co17 : Value).ownBlock ∧ some k_ ≠ (.slice (some ad252) x1_2.length co46 : Value).ownBlock) (.slice A252_0 ((rd_T53 x1_2 (rd l2 x34_2)).f0).length c252_0) ((rd_T53 x1_2 (rd l2 x34_2)).f0)) := ⟨(by rw [hw]; exact (by refine zrR ?_; exact Kd.R_mono (zfR (zfR (zfR (zfR (zfR (Kd.R_types HL252_0.1 BK258.1 (by decide))))))) (fun _ hk => ⟨hk.1.1, hk.1.2⟩)))⟩; have n3_ : Aside0 (w51.heap[gb237]? = some (.cells #[.slice A3_0 l3_0.length c3_0, .slice A3_1 l3_1.length c3_1] 27 (0, 0))) := ⟨(by rw [hw]; exact zPq)⟩; have n4_ : Aside0 (w51.heap[gb258]? = some (.cells #[.int .i64 t253, .int .i64 t254, .int .i64 t255, .int .i64 t256, .int .i64 t257] 57 (0, 0))) := ⟨(by rw [hw]; exact (by exact zp5 (zK BK258.1)))⟩; have n5_ : Aside0 (Below w.heap.size w w51) := ⟨(by rw [hw]; exact zB1)⟩; clear hw; clear HO_0; clear HO_1; clear HL252_0; clear BK237; clear BK258; clear HB; have HO_0 := n0_; have HO_1 := n1_; have HL252_0 := n2_; have BK237 := n3_; have BK258 := n4_; have HB := n5_; clear n0_ n1_ n2_ n3_ n4_ n5_; have p259 : 0 ≤ ((rd l2 x34_2) : Int) := zA; have q259 : (rd l2 x34_2) < (x1_2.length : Int) := zA; obtain ⟨ad259, A259_0, c259_0, e259, hx259_0, hx259_1, hx259_2, hl259_0, hi259_0⟩ := at_T53 (Kd.S_reads' HO_1.1).2.2 (rd l2 x34_2) p259 q259; obtain rfl : ad252 = ad259 := (by injection e259); obtain ⟨ce259, hce259, hMe259, hcc259⟩ := Kd.S_get HO_1.1 z53 (rd l2 x34_2) p259 (by first | exact q259 | exact zA | (have e_ := (Kd.S_reads' HO_1.1).1; omega)); obtain ⟨ve259_0, rfl, ge259_0⟩ := k53_openM hMe259; have hv259_0 := hcc259 0 _ rfl; rw [Nat.add_zero] at hv259_0; replace hv259_0 := Option.some.inj (hv259_0.symm.trans hx259_0); rw [hv259_0] at ge259_0; have HL259_0 := zM (show Kd.R (Kd.int .i64) 3 _ _ _ _ ((rd_T53 x1_2 (rd l2 x34_2)).f0) from ge259_0); clear hv259_0 ge259_0; clear hcc259 hce259; have HR259_0 := zM hi259_0; have HC259_0 := zM hl259_0; clear hi259_0 hl259_0; replace p259 := eq_true p259; replace q259 := eq_true q259) | (go_at_call 66; (with_reducible refine (impl_step.calls kj31 (fun k_ => some k_ = (.slice Ao17 x0_2.length co17 : Value).ownBlock) (.slice Ao17 x0_2.length co17) x0_2 _ _ ((rd_T53 x1_2 (rd l2 x34_2)).f0) ((rd_T53 x1_2 (rd l2 x34_2)).f1) ((rd_T53 x1_2 (rd l2 x34_2)).f2) t260 t263 t264 t265 w _ ?side1 ?side2 ?side3 ?side4 A43.1).mono ?_); (case side1 => exact zB1); (case side2 => exact Kd.R_tight rfl HO_0.1); (case side3 => exact Kd.C_kept_own (HL259_0.1) (fun k_ hk_ hs_ => (hk_.1) hs_)); (case side4 => exact HC259_0.1); rintro e w52 ⟨v261, rfl, ho0, hy0, hb, hkp⟩; have n0_ := zM (Kd.R_reok rfl hy0 (fun k_ e_ => HO_0.1.1 k_ e_)); have n1_ := zM (Kd.S_mono (ok' := fun k_ => some k_ ≠ (.slice Ao17 x0_2.length co17 : Value).ownBlock ∧ some k_ ≠ (v261 : Value).ownBlock) (Kd.S_keptB (HO_1.1) hkp (fun k_ hk_ hs_ => (hk_) hs_)) (fun k_ hk_ => ⟨hk_.1, fun e_ => Or.elim (ho0.1 k_ e_.symm).1 (fun hs_ => hk_.2.1 hs_) (fun hn_ => Nat.not_le.2 hk_.2.2 hn_)⟩)); have n2_ := zM (blk_kept (zK BK237.1) hkp (fun hs_ => (fun e_ => (Kd.R_ne HO_0.1 BK237.1 (by decide)) e_) hs_)); have n3_ := zM (blk_kept (zK BK258.1) hkp (fun hs_ => (fun e_ => (Kd.R_ne HO_0.1 BK258.1 (by decide)) e_) hs_)); have n4_ := zM (Kd.R_mono (ok' := fun k_ => some k_ ≠ (.slice Ao17 x0_2.length co17 : Value).ownBlock) ho0 (fun k_ hk_ => hk_.2)); have n5_ := zM hb; clear HO_0; clear HO_1; clear BK237; clear BK258; clear HB; clear HL252_0; clear HL259_0; have HO_0 := n0_; have HO_1 := n1_; have BK237 := n2_; have BK258 := n3_; have HO262 := n4_; have HB := n5_; clear n0_ n1_ n2_ n3_ n4_ n5_; clear hb hkp ho0 hy0; have p44 : 0 ≤ ((rd l2 x34_2) : Int) := zA; have q44 : ((rd l2 x34_2) : Int) < ((x1_2.length : Int) : Int) := zA; obtain ⟨go44, co44, eo44, gb44, gl44, cl44, HG44⟩ := Kd.S_form HO_1.1 (by omega); (first | cases eo44 | (injection eo44 with ea_ en_ ec_; (first | subst ea_ | (injection ea_ with ea_; subst ea_)); subst ec_; clear en_)); have GB44 := zM gb44; have GG44 := zM HG44; clear gb44 gl44 HG44; (first | simp only [add_plain] at hx252_0 | skip); (first | simp only [add_plain] at hx252_1 | skip); (first | simp only [add_plain] at hx252_2 | skip); (first | simp only [add_plain] at hx259_0 | skip); (first | simp only [add_plain] at hx259_1 | skip); (first | simp only [add_plain] at hx259_2 | skip); obtain ⟨_, ce44, hcl44, hM44, hcc44, hfr44, _, _⟩ := Kd.S_elem HO_1.1 z53 ((rd l2 x34_2) : Int) p44 q44; obtain ⟨ve44_0, rfl, ge44_0⟩ := k53_openM hM44; have hx44_0 : w52.cell? ⟨go44, ((rd l2 x34_2) : Int).toNat * 3, none⟩ = some (ve44_0) := hcc44 0 _ rfl; have hx44_1 : w52.cell? ⟨go44, ((rd l2 x34_2) : Int).toNat * 3 + 1, none⟩ = some (.int .i64 ((rd_T53 x1_2 (rd l2 x34_2)).f1)) := hcc44 1 _ rfl; have hx44_2 : w52.cell? ⟨go44, ((rd l2 x34_2) : Int).toNat * 3 + 2, none⟩ = some (.int .i64 ((rd_T53 x1_2 (rd l2 x34_2)).f2)) := hcc44 2 _ rfl; have hf44_0 : w52.frozen? ⟨go44, ((rd l2 x34_2) : Int).toNat * 3, none⟩ = false := hfr44 0; have hf44_1 : w52.frozen? ⟨go44, ((rd l2 x34_2) : Int).toNat * 3 + 1, none⟩ = false := hfr44 1; have hf44_2 : w52.frozen? ⟨go44, ((rd l2 x34_2) : Int).toNat * 3 + 2, none⟩ = false := hfr44 2; clear hcl44 hcc44 hfr44 hM44; replace p44 := eq_true p44; replace q44 := eq_true q44; obtain ⟨Ao53, co53, eo53⟩ := Kd.R_slice HO262.1; subst eo53; have HX54 := zM (show Kd.S k53 53 w52 w.heap.size (fun k_ => ((fun k_ => some k_ ≠ (.slice Ao17 x0_2.length co17 : Value).ownBlock)) k_ ∧ ¬ ((fun k_ => some k_ = (.slice Ao53 t260.length co53 : Value).ownBlock)) k_) (.slice (some ⟨go44, 0, none⟩) x1_2.length co46) x1_2 from (by refine zrS ?_; exact Kd.S_mono HO_1.1 (fun k_ hk => ⟨hk.1, fun e_ => hk.2 e_⟩))); obtain ⟨oki54, ce54, hcl54, hM54, hcc54, hfr54, hoki54, hH54⟩ := Kd.S_elem HX54.out z53 ((rd l2 x34_2) : Int) zA (by have h_ : ((rd l2 x34_2) : Int) < ((x1_2.length : Int) : Int) := zA; first | exact h_ | (have e_ := (Kd.S_reads' HO_1.1).1; omega) | simpa using h_); obtain ⟨ve54_0, rfl, ge54_0⟩ := k53_openM hM54; have HP54 := Kd.S_seg hH54 zA (by have h_ : ((rd l2 x34_2) : Int) < ((x1_2.length : Int) : Int) := zA; first | exact h_ | (have e_ := (Kd.S_reads' HO_1.1).1; omega) | simpa using h_) (seg := [.slice Ao53 t260.length co53, .int .i64 t263, .int .i64 t264]) (j := 0) (show 3 ≤ 3 from by decide) (x' := (⟨t260, t263, t264⟩ : S53)) (k53_mkM _ _ _ (⟨t260, t263, t264⟩ : S53) (Kd.R_mono (Kd.R_tight rfl (Kd.R_mono (ok' := fun k_ => ((fun k_ => some k_ ≠ (.slice Ao17 x0_2.length co17 : Value).ownBlock)) k_ ∧ k_ ≠ go44) (Kd.R_apart' (HO262.1) (Kd.S_typed HO_1.1) (by decide)) (fun k_ hk => ⟨hk.1, fun e_ => (hk.2) (by rw [e_]; rfl)⟩))) (fun _ h_ => Or.inr (h_)))) (fun _ hk => hk) (fun k_ hk_ => ((Kd.R_mono (ok' := fun k_ => ((fun k_ => some k_ ≠ (.slice Ao17 x0_2.length co17 : Value).ownBlock)) k_ ∧ k_ ≠ go44) (Kd.R_apart' (HO262.1) (Kd.S_typed HO_1.1) (by decide)) (fun k_ hk => ⟨hk.1, fun e_ => (hk.2) (by rw [e_]; rfl)⟩))).1 k_ hk_.symm); have hx54_0 := hcc54 0 _ rfl; (try simp only [show (k53).sz = 3 from rfl, Nat.mul_one, Nat.add_zero] at hx54_0); have hf54_0 := hfr54 0; (try simp only [show (k53).sz = 3 from rfl, Nat.mul_one, Nat.add_zero] at hf54_0); have hx54_1 := hcc54 1 _ rfl; (try simp only [show (k53).sz = 3 from rfl, Nat.mul_one, Nat.add_zero] at hx54_1); have hf54_1 := hfr54 1; (try simp only [show (k53).sz = 3 from rfl, Nat.mul_one, Nat.add_zero] at hf54_1); have hx54_2 := hcc54 2 _ rfl; (try simp only [show (k53).sz = 3 from rfl, Nat.mul_one, Nat.add_zero] at hx54_2); have hf54_2 := hfr54 2; (try simp only [show (k53).sz = 3 from rfl, Nat.mul_one, Nat.add_zero] at hf54_2); clear hcl54 hcc54 hfr54 hM54 hoki54 hH54) | ((with_reducible refine gate_store (t := 53) (p := 87) rfl ?_); (try (rw [drewN_self w52]; generalize hq_ : World.drewN w52 _ = w52; have n0_ := zM (Kd.R_at hq_ HO_0.1); have n1_ := zM (Kd.S_at hq_ HO_1.1); have n2_ := zM (blk_at hq_ BK237.1); have n3_ := zM (blk_at hq_ BK258.1); have n4_ := zM (below_at hq_ HB.1); clear hq_ HO_0 HO_1 BK237 BK258 HB; have HO_0 := n0_; have HO_1 := n1_; have BK237 := n2_; have BK258 := n3_; have HB := n4_; clear n0_ n1_ n2_ n3_ n4_; (try (have HX54 := zM (show Kd.S k53 53 w52 w.heap.size (fun k_ => ((fun k_ => some k_ ≠ (.slice Ao17 x0_2.length co17 : Value).ownBlock)) k_ ∧ ¬ ((fun k_ => some k_ = (.slice Ao53 t260.length co53 : Value).ownBlock)) k_) (.slice (some ⟨go44, 0, none⟩) x1_2.length co46) x1_2 from (by refine zrS ?_; exact Kd.S_mono HO_1.1 (fun k_ hk => ⟨hk.1, fun e_ => hk.2 e_⟩))))); (try (obtain ⟨oki54, ce54, hcl54, hM54, hcc54, hfr54, hoki54, hH54⟩ := Kd.S_elem HX54.out z53 ((rd l2 x34_2) : Int) zA (by have h_ : ((rd l2 x34_2) : Int) < ((x1_2.length : Int) : Int) := zA; first | exact h_ | (have e_ := (Kd.S_reads' HO_1.1).1; omega) | simpa using h_))); (try (obtain ⟨ve54_0, rfl, ge54_0⟩ := k53_openM hM54)); (try (have HP54 := Kd.S_seg hH54 zA (by have h_ : ((rd l2 x34_2) : Int) < ((x1_2.length : Int) : Int) := zA; first | exact h_ | (have e_ := (Kd.S_reads' HO_1.1).1; omega) | simpa using h_) (seg := [.slice Ao53 t260.length co53, .int .i64 t263, .int .i64 t264]) (j := 0) (show 3 ≤ 3 from by decide) (x' := (⟨t260, t263, t264⟩ : S53)) (k53_mkM _ _ _ (⟨t260, t263, t264⟩ : S53) (Kd.R_mono (Kd.R_tight rfl (Kd.R_mono (ok' := fun k_ => ((fun k_ => some k_ ≠ (.slice Ao17 x0_2.length co17 : Value).ownBlock)) k_ ∧ k_ ≠ go44) (Kd.R_apart' (HO262.1) (Kd.S_typed HO_1.1) (by decide)) (fun k_ hk => ⟨hk.1, fun e_ => (hk.2) (by rw [e_]; rfl)⟩))) (fun _ h_ => Or.inr (h_)))) (fun _ hk => hk) (fun k_ hk_ => ((Kd.R_mono (ok' := fun k_ => ((fun k_ => some k_ ≠ (.slice Ao17 x0_2.length co17 : Value).ownBlock)) k_ ∧ k_ ≠ go44) (Kd.R_apart' (HO262.1) (Kd.S_typed HO_1.1) (by decide)) (fun k_ hk => ⟨hk.1, fun e_ => (hk.2) (by rw [e_]; rfl)⟩))).1 k_ hk_.symm))); (try (have hx54_0 := hcc54 0 _ rfl)); (try (try simp only [show (k53).sz = 3 from rfl, Nat.mul_one, Nat.add_zero] at hx54_0)); (try (have hf54_0 := hfr54 0)); (try (try simp only [show (k53).sz = 3 from rfl, Nat.mul_one, Nat.add_zero] at hf54_0)); (try (have hx54_1 := hcc54 1 _ rfl)); (try (try simp only [show (k53).sz = 3 from rfl, Nat.mul_one, Nat.add_zero] at hx54_1)); (try (have hf54_1 := hfr54 1)); (try (try simp only [show (k53).sz = 3 from rfl, Nat.mul_one, Nat.add_zero] at hf54_1)); (try (have hx54_2 := hcc54 2 _ rfl)); (try (try simp only [show (k53).sz = 3 from rfl, Nat.mul_one, Nat.add_zero] at hx54_2)); (try (have hf54_2 := hfr54 2)); (try (try simp only [show (k53).sz = 3 from rfl, Nat.mul_one, Nat.add_zero] at hf54_2)); (try (clear hcl54 hcc54 hfr54 hM54 hoki54 hH54)))); refine store_event (t := 53) (p := 87) (v := ?vo_w55) (w1 := (((w52.setCell ⟨go44, ((rd l2 x34_2) : Int).toNat * 3, none⟩ (.slice Ao53 t260.length co53)).setCell ⟨go44, ((rd l2 x34_2) : Int).toNat * 3 + 1, none⟩ (.int .i64 t263)).setCell ⟨go44, ((rd l2 x34_2) : Int).toNat * 3 + 2, none⟩ (.int .i64 t264))) ?hg ?ho ?hn ?hr ?_; (case ho => rfl); (case hg => rfl); (case hn => rfl); (case hr => exact zHH); intro w55 hw; have hg : w52.grownBy w55 (some go44) := (by rw [hw]; exact HP54.2); have hp_ : Kd.S k53 53 w55 w.heap.size (fun k_ => some k_ ≠ (.slice Ao17 x0_2.length co17 : Value).ownBlock) (.slice (some ⟨go44, 0, none⟩) x1_2.length co46) y266 := (by rw [hw, Ny266.1]; exact HP54.1); clear HP54; have n0_ := zM (Kd.R_over' (v := (.slice (some ⟨go44, 0, none⟩) x1_2.length co46)) (zR HO_0.1) (Kd.S_typed HO_1.1) (by decide) hg); have n1_ := zM hp_; have n2_ := zM (zg BK237.1 hg (Kd.S_ne HO_1.1 BK237.1 (by decide))); have n3_ := zM (zg BK258.1 hg (Kd.S_ne HO_1.1 BK258.1 (by decide))); have n4_ := zM ((by rw [hw]; exact below_set (below_set (below_set (HB.1) GB44.1) GB44.1) GB44.1 : Below w.heap.size w w55)); clear HO_0; clear HO_1; clear BK237; clear BK258; clear HB; clear HO262; have HO_0 := n0_; have HO_1 := n1_; have BK237 := n2_; have BK258 := n3_; have HB := n4_; clear n0_ n1_ n2_ n3_ n4_; clear hg hw hp_))
         repeat (go_quiet (first | (go_at_call 65; (with_reducible refine (impl_eventOf.calls kj31 _ _ x0_2 _ _ ((rd_T53 x1_2 (rd l2 x34_2)).f0) ((rd_T53 x1_2 (rd l2 x34_2)).f1) ((rd_T53 x1_2 (rd l2 x34_2)).f2) (rd l2 x34_2) t253 t254 t255 t256 t257 _ ?side1 ?side2 ?side3 ?side4 A42.1).mono ?_); (case side1 => exact zC (Kd.R_reads' HO_0.1).2.2); (case side2 => exact (Kd.R_reads' HO_0.1).2.1); (case side3 => exact zC HR252_0.1); (case side4 => exact HC252_0.1); rintro e w47 ⟨rfl, hb⟩; have n0_ := zM (Kd.R_below (zR HO_0.1) hb); have n1_ := zM (Kd.S_below (zS HO_1.1) hb); have n2_ := zM (Kd.R_below (zR HL252_0.1) hb); have n3_ := zM (zb BK237.1 hb); have n4_ := zM (Kd.C_below (zC HR252_0.1) hb); have n5_ := zM (below_step zB1 hb); clear HO_0; clear HO_1; clear HL252_0; clear BK237; clear HR252_0; clear HB; have HO_0 := n0_; have HO_1 := n1_; have HL252_0 := n2_; have BK237 := n3_; have HR252_0 := n4_; have HB := n5_; clear n0_ n1_ n2_ n3_ n4_ n5_; clear hb) | ((with_reducible refine gate_dst (N := 15) rfl ?_); (try (refine gate_guard (by rfl) ?_; dsimp only)); (with_reducible refine zBx 15 57 #[.int .i64 0, .int .i64 0, .int .i64 0, .int .i64 0, .int .i64 0] ?_); intro gb258 hg w48 hbox hb; have n0_ := zM (Kd.R_below (zR HO_0.1) hb); have n1_ := zM (Kd.S_below (zS HO_1.1) hb); have n2_ := zM (Kd.R_below (zR HL252_0.1) hb); have n3_ := zM (zb BK237.1 hb); have n4_ := zM (Kd.C_below (zC HR252_0.1) hb); have n5_ := zM (below_step zB1 hb); have n6_ := zM hbox; have n7_ := zM (zW hg (below_size zB1)); have n8_ := zM (zW hg (below_size zB1)); have n9_ := zM ((zn BK237.1 hg : gb237 ≠ gb258)); have n10_ := zM ((zm BK237.1 hg : gb258 ≠ gb237)); clear HO_0; clear HO_1; clear HL252_0; clear BK237; clear HR252_0; clear HB; have HO_0 := n0_; have HO_1 := n1_; have HL252_0 := n2_; have BK237 := n3_; have HR252_0 := n4_; have HB := n5_; have BK258 := n6_; have GW258 := n7_; have GE258 := n8_; have NB237_258 := n9_; have NB258_237 := n10_; clear n0_ n1_ n2_ n3_ n4_ n5_ n6_ n7_ n8_ n9_ n10_; clear hb hbox hg; have hnb49 := NB258_237.1; have hnc49 := NB237_258.1; have hcz50 := zc_5 (w := w48) BK258.1) | ((with_reducible refine gate_store (t := 57) (p := 15) rfl ?_); (try (rw [drewN_self w48]; generalize hq_ : World.drewN w48 _ = w48; have n0_ := zM (Kd.R_at hq_ HO_0.1); have n1_ := zM (Kd.S_at hq_ HO_1.1); have n2_ := zM (Kd.R_at hq_ HL252_0.1); have n3_ := zM (blk_at hq_ BK237.1); have n4_ := zM (blk_at hq_ BK258.1); have n5_ := zM (Kd.C_at hq_ HR252_0.1); have n6_ := zM (below_at hq_ HB.1); clear hq_ HO_0 HO_1 HL252_0 BK237 BK258 HR252_0 HB; have HO_0 := n0_; have HO_1 := n1_; have HL252_0 := n2_; have BK237 := n3_; have BK258 := n4_; have HR252_0 := n5_; have HB := n6_; clear n0_ n1_ n2_ n3_ n4_ n5_ n6_)); refine store_event (t := 57) (p := 15) (v := ?vo_w51) (w1 := (((((w48.setCell ⟨gb258, 0, none⟩ (.int .i64 t253)).setCell ⟨gb258, 1, none⟩ (.int .i64 t254)).setCell ⟨gb258, 2, none⟩ (.int .i64 t255)).setCell ⟨gb258, 3, none⟩ (.int .i64 t256)).setCell ⟨gb258, 4, none⟩ (.int .i64 t257))) ?hg ?ho ?hn ?hr ?_; (case ho => rfl); (case hg => rfl); (case hn => rfl); (case hr => exact zHH); intro w51 hw; have n0_ : Aside0 (Kd.R (Kd.int .i64) 3 w51 w.heap.size (fun _ => True) (.slice Ao17 x0_2.length co17) x0_2) := ⟨(by rw [hw]; exact (by refine zrR ?_; exact Kd.R_mono (zfR (zfR (zfR (zfR (zfR (Kd.R_types HO_0.1 BK258.1 (by decide))))))) (fun _ hk => trivial)))⟩; have n1_ : Aside0 (Kd.S k53 53 w51 w.heap.size (fun k_ => some k_ ≠ (.slice Ao17 x0_2.length co17 : Value).ownBlock) (.slice (some ad252) x1_2.length co46) x1_2) := ⟨(by rw [hw]; exact (by refine zrS ?_; exact Kd.S_mono (zfS (zfS (zfS (zfS (zfS (Kd.S_types HO_1.1 BK258.1 (by decide))))))) (fun _ hk => hk.1)))⟩; have n2_ : Aside0 (Kd.R (Kd.int .i64) 3 w51 w.heap.size (fun k_ => some k_ ≠ (.slice Ao17 x0_2.length co17 : Value).ownBlock ∧ some k_ ≠ (.slice (some ad252) x1_2.length co46 : Value).ownBlock) (.slice A252_0 ((rd_T53 x1_2 (rd l2 x34_2)).f0).length c252_0) ((rd_T53 x1_2 (rd l2 x34_2)).f0)) := ⟨(by rw [hw]; exact (by refine zrR ?_; exact Kd.R_mono (zfR (zfR (zfR (zfR (zfR (Kd.R_types HL252_0.1 BK258.1 (by decide))))))) (fun _ hk => ⟨hk.1.1, hk.1.2⟩)))⟩; have n3_ : Aside0 (w51.heap[gb237]? = some (.cells #[.slice A3_0 l3_0.length c3_0, .slice A3_1 l3_1.length c3_1] 27 (0, 0))) := ⟨(by rw [hw]; exact zPq)⟩; have n4_ : Aside0 (w51.heap[gb258]? = some (.cells #[.int .i64 t253, .int .i64 t254, .int .i64 t255, .int .i64 t256, .int .i64 t257] 57 (0, 0))) := ⟨(by rw [hw]; exact (by exact zp5 (zK BK258.1)))⟩; have n5_ : Aside0 (Below w.heap.size w w51) := ⟨(by rw [hw]; exact zB1)⟩; clear hw; clear HO_0; clear HO_1; clear HL252_0; clear BK237; clear BK258; clear HB; have HO_0 := n0_; have HO_1 := n1_; have HL252_0 := n2_; have BK237 := n3_; have BK258 := n4_; have HB := n5_; clear n0_ n1_ n2_ n3_ n4_ n5_; have p259 : 0 ≤ ((rd l2 x34_2) : Int) := zA; have q259 : (rd l2 x34_2) < (x1_2.length : Int) := zA; obtain ⟨ad259, A259_0, c259_0, e259, hx259_0, hx259_1, hx259_2, hl259_0, hi259_0⟩ := at_T53 (Kd.S_reads' HO_1.1).2.2 (rd l2 x34_2) p259 q259; obtain rfl : ad252 = ad259 := (by injection e259); obtain ⟨ce259, hce259, hMe259, hcc259⟩ := Kd.S_get HO_1.1 z53 (rd l2 x34_2) p259 (by first | exact q259 | exact zA | (have e_ := (Kd.S_reads' HO_1.1).1; omega)); obtain ⟨ve259_0, rfl, ge259_0⟩ := k53_openM hMe259; have hv259_0 := hcc259 0 _ rfl; rw [Nat.add_zero] at hv259_0; replace hv259_0 := Option.some.inj (hv259_0.symm.trans hx259_0); rw [hv259_0] at ge259_0; have HL259_0 := zM (show Kd.R (Kd.int .i64) 3 _ _ _ _ ((rd_T53 x1_2 (rd l2 x34_2)).f0) from ge259_0); clear hv259_0 ge259_0; clear hcc259 hce259; have HR259_0 := zM hi259_0; have HC259_0 := zM hl259_0; clear hi259_0 hl259_0; replace p259 := eq_true p259; replace q259 := eq_true q259) | (go_at_call 66; (with_reducible refine (impl_step.calls kj31 (fun k_ => some k_ = (.slice Ao17 x0_2.length co17 : Value).ownBlock) (.slice Ao17 x0_2.length co17) x0_2 _ _ ((rd_T53 x1_2 (rd l2 x34_2)).f0) ((rd_T53 x1_2 (rd l2 x34_2)).f1) ((rd_T53 x1_2 (rd l2 x34_2)).f2) t260 t263 t264 t265 w _ ?side1 ?side2 ?side3 ?side4 A43.1).mono ?_); (case side1 => exact zB1); (case side2 => exact Kd.R_tight rfl HO_0.1); (case side3 => exact Kd.C_kept_own (HL259_0.1) (fun k_ hk_ hs_ => (hk_.1) hs_)); (case side4 => exact HC259_0.1); rintro e w52 ⟨v261, rfl, ho0, hy0, hb, hkp⟩; have n0_ := zM (Kd.R_reok rfl hy0 (fun k_ e_ => HO_0.1.1 k_ e_)); have n1_ := zM (Kd.S_mono (ok' := fun k_ => some k_ ≠ (.slice Ao17 x0_2.length co17 : Value).ownBlock ∧ some k_ ≠ (v261 : Value).ownBlock) (Kd.S_keptB (HO_1.1) hkp (fun k_ hk_ hs_ => (hk_) hs_)) (fun k_ hk_ => ⟨hk_.1, fun e_ => Or.elim (ho0.1 k_ e_.symm).1 (fun hs_ => hk_.2.1 hs_) (fun hn_ => Nat.not_le.2 hk_.2.2 hn_)⟩)); have n2_ := zM (blk_kept (zK BK237.1) hkp (fun hs_ => (fun e_ => (Kd.R_ne HO_0.1 BK237.1 (by decide)) e_) hs_)); have n3_ := zM (blk_kept (zK BK258.1) hkp (fun hs_ => (fun e_ => (Kd.R_ne HO_0.1 BK258.1 (by decide)) e_) hs_)); have n4_ := zM (Kd.R_mono (ok' := fun k_ => some k_ ≠ (.slice Ao17 x0_2.length co17 : Value).ownBlock) ho0 (fun k_ hk_ => hk_.2)); have n5_ := zM hb; clear HO_0; clear HO_1; clear BK237; clear BK258; clear HB; clear HL252_0; clear HL259_0; have HO_0 := n0_; have HO_1 := n1_; have BK237 := n2_; have BK258 := n3_; have HO262 := n4_; have HB := n5_; clear n0_ n1_ n2_ n3_ n4_ n5_; clear hb hkp ho0 hy0; have p44 : 0 ≤ ((rd l2 x34_2) : Int) := zA; have q44 : ((rd l2 x34_2) : Int) < ((x1_2.length : Int) : Int) := zA; obtain ⟨go44, co44, eo44, gb44, gl44, cl44, HG44⟩ := Kd.S_form HO_1.1 (by omega); (first | cases eo44 | (injection eo44 with ea_ en_ ec_; (first | subst ea_ | (injection ea_ with ea_; subst ea_)); subst ec_; clear en_)); have GB44 := zM gb44; have GG44 := zM HG44; clear gb44 gl44 HG44; (first | simp only [add_plain] at hx252_0 | skip); (first | simp only [add_plain] at hx252_1 | skip); (first | simp only [add_plain] at hx252_2 | skip); (first | simp only [add_plain] at hx259_0 | skip); (first | simp only [add_plain] at hx259_1 | skip); (first | simp only [add_plain] at hx259_2 | skip); obtain ⟨_, ce44, hcl44, hM44, hcc44, hfr44, _, _⟩ := Kd.S_elem HO_1.1 z53 ((rd l2 x34_2) : Int) p44 q44; obtain ⟨ve44_0, rfl, ge44_0⟩ := k53_openM hM44; have hx44_0 : w52.cell? ⟨go44, ((rd l2 x34_2) : Int).toNat * 3, none⟩ = some (ve44_0) := hcc44 0 _ rfl; have hx44_1 : w52.cell? ⟨go44, ((rd l2 x34_2) : Int).toNat * 3 + 1, none⟩ = some (.int .i64 ((rd_T53 x1_2 (rd l2 x34_2)).f1)) := hcc44 1 _ rfl; have hx44_2 : w52.cell? ⟨go44, ((rd l2 x34_2) : Int).toNat * 3 + 2, none⟩ = some (.int .i64 ((rd_T53 x1_2 (rd l2 x34_2)).f2)) := hcc44 2 _ rfl; have hf44_0 : w52.frozen? ⟨go44, ((rd l2 x34_2) : Int).toNat * 3, none⟩ = false := hfr44 0; have hf44_1 : w52.frozen? ⟨go44, ((rd l2 x34_2) : Int).toNat * 3 + 1, none⟩ = false := hfr44 1; have hf44_2 : w52.frozen? ⟨go44, ((rd l2 x34_2) : Int).toNat * 3 + 2, none⟩ = false := hfr44 2; clear hcl44 hcc44 hfr44 hM44; replace p44 := eq_true p44; replace q44 := eq_true q44; obtain ⟨Ao53, co53, eo53⟩ := Kd.R_slice HO262.1; subst eo53; have HX54 := zM (show Kd.S k53 53 w52 w.heap.size (fun k_ => ((fun k_ => some k_ ≠ (.slice Ao17 x0_2.length co17 : Value).ownBlock)) k_ ∧ ¬ ((fun k_ => some k_ = (.slice Ao53 t260.length co53 : Value).ownBlock)) k_) (.slice (some ⟨go44, 0, none⟩) x1_2.length co46) x1_2 from (by refine zrS ?_; exact Kd.S_mono HO_1.1 (fun k_ hk => ⟨hk.1, fun e_ => hk.2 e_⟩))); obtain ⟨oki54, ce54, hcl54, hM54, hcc54, hfr54, hoki54, hH54⟩ := Kd.S_elem HX54.out z53 ((rd l2 x34_2) : Int) zA (by have h_ : ((rd l2 x34_2) : Int) < ((x1_2.length : Int) : Int) := zA; first | exact h_ | (have e_ := (Kd.S_reads' HO_1.1).1; omega) | simpa using h_); obtain ⟨ve54_0, rfl, ge54_0⟩ := k53_openM hM54; have HP54 := Kd.S_seg hH54 zA (by have h_ : ((rd l2 x34_2) : Int) < ((x1_2.length : Int) : Int) := zA; first | exact h_ | (have e_ := (Kd.S_reads' HO_1.1).1; omega) | simpa using h_) (seg := [.slice Ao53 t260.length co53, .int .i64 t263, .int .i64 t264]) (j := 0) (show 3 ≤ 3 from by decide) (x' := (⟨t260, t263, t264⟩ : S53)) (k53_mkM _ _ _ (⟨t260, t263, t264⟩ : S53) (Kd.R_mono (Kd.R_tight rfl (Kd.R_mono (ok' := fun k_ => ((fun k_ => some k_ ≠ (.slice Ao17 x0_2.length co17 : Value).ownBlock)) k_ ∧ k_ ≠ go44) (Kd.R_apart' (HO262.1) (Kd.S_typed HO_1.1) (by decide)) (fun k_ hk => ⟨hk.1, fun e_ => (hk.2) (by rw [e_]; rfl)⟩))) (fun _ h_ => Or.inr (h_)))) (fun _ hk => hk) (fun k_ hk_ => ((Kd.R_mono (ok' := fun k_ => ((fun k_ => some k_ ≠ (.slice Ao17 x0_2.length co17 : Value).ownBlock)) k_ ∧ k_ ≠ go44) (Kd.R_apart' (HO262.1) (Kd.S_typed HO_1.1) (by decide)) (fun k_ hk => ⟨hk.1, fun e_ => (hk.2) (by rw [e_]; rfl)⟩))).1 k_ hk_.symm); have hx54_0 := hcc54 0 _ rfl; (try simp only [show (k53).sz = 3 from rfl, Nat.mul_one, Nat.add_zero] at hx54_0); have hf54_0 := hfr54 0; (try simp only [show (k53).sz = 3 from rfl, Nat.mul_one, Nat.add_zero] at hf54_0); have hx54_1 := hcc54 1 _ rfl; (try simp only [show (k53).sz = 3 from rfl, Nat.mul_one, Nat.add_zero] at hx54_1); have hf54_1 := hfr54 1; (try simp only [show (k53).sz = 3 from rfl, Nat.mul_one, Nat.add_zero] at hf54_1); have hx54_2 := hcc54 2 _ rfl; (try simp only [show (k53).sz = 3 from rfl, Nat.mul_one, Nat.add_zero] at hx54_2); have hf54_2 := hfr54 2; (try simp only [show (k53).sz = 3 from rfl, Nat.mul_one, Nat.add_zero] at hf54_2); clear hcl54 hcc54 hfr54 hM54 hoki54 hH54) | ((with_reducible refine gate_store (t := 53) (p := 87) rfl ?_); (try (rw [drewN_self w52]; generalize hq_ : World.drewN w52 _ = w52; have n0_ := zM (Kd.R_at hq_ HO_0.1); have n1_ := zM (Kd.S_at hq_ HO_1.1); have n2_ := zM (blk_at hq_ BK237.1); have n3_ := zM (blk_at hq_ BK258.1); have n4_ := zM (below_at hq_ HB.1); clear hq_ HO_0 HO_1 BK237 BK258 HB; have HO_0 := n0_; have HO_1 := n1_; have BK237 := n2_; have BK258 := n3_; have HB := n4_; clear n0_ n1_ n2_ n3_ n4_; (try (have HX54 := zM (show Kd.S k53 53 w52 w.heap.size (fun k_ => ((fun k_ => some k_ ≠ (.slice Ao17 x0_2.length co17 : Value).ownBlock)) k_ ∧ ¬ ((fun k_ => some k_ = (.slice Ao53 t260.length co53 : Value).ownBlock)) k_) (.slice (some ⟨go44, 0, none⟩) x1_2.length co46) x1_2 from (by refine zrS ?_; exact Kd.S_mono HO_1.1 (fun k_ hk => ⟨hk.1, fun e_ => hk.2 e_⟩))))); (try (obtain ⟨oki54, ce54, hcl54, hM54, hcc54, hfr54, hoki54, hH54⟩ := Kd.S_elem HX54.out z53 ((rd l2 x34_2) : Int) zA (by have h_ : ((rd l2 x34_2) : Int) < ((x1_2.length : Int) : Int) := zA; first | exact h_ | (have e_ := (Kd.S_reads' HO_1.1).1; omega) | simpa using h_))); (try (obtain ⟨ve54_0, rfl, ge54_0⟩ := k53_openM hM54)); (try (have HP54 := Kd.S_seg hH54 zA (by have h_ : ((rd l2 x34_2) : Int) < ((x1_2.length : Int) : Int) := zA; first | exact h_ | (have e_ := (Kd.S_reads' HO_1.1).1; omega) | simpa using h_) (seg := [.slice Ao53 t260.length co53, .int .i64 t263, .int .i64 t264]) (j := 0) (show 3 ≤ 3 from by decide) (x' := (⟨t260, t263, t264⟩ : S53)) (k53_mkM _ _ _ (⟨t260, t263, t264⟩ : S53) (Kd.R_mono (Kd.R_tight rfl (Kd.R_mono (ok' := fun k_ => ((fun k_ => some k_ ≠ (.slice Ao17 x0_2.length co17 : Value).ownBlock)) k_ ∧ k_ ≠ go44) (Kd.R_apart' (HO262.1) (Kd.S_typed HO_1.1) (by decide)) (fun k_ hk => ⟨hk.1, fun e_ => (hk.2) (by rw [e_]; rfl)⟩))) (fun _ h_ => Or.inr (h_)))) (fun _ hk => hk) (fun k_ hk_ => ((Kd.R_mono (ok' := fun k_ => ((fun k_ => some k_ ≠ (.slice Ao17 x0_2.length co17 : Value).ownBlock)) k_ ∧ k_ ≠ go44) (Kd.R_apart' (HO262.1) (Kd.S_typed HO_1.1) (by decide)) (fun k_ hk => ⟨hk.1, fun e_ => (hk.2) (by rw [e_]; rfl)⟩))).1 k_ hk_.symm))); (try (have hx54_0 := hcc54 0 _ rfl)); (try (try simp only [show (k53).sz = 3 from rfl, Nat.mul_one, Nat.add_zero] at hx54_0)); (try (have hf54_0 := hfr54 0)); (try (try simp only [show (k53).sz = 3 from rfl, Nat.mul_one, Nat.add_zero] at hf54_0)); (try (have hx54_1 := hcc54 1 _ rfl)); (try (try simp only [show (k53).sz = 3 from rfl, Nat.mul_one, Nat.add_zero] at hx54_1)); (try (have hf54_1 := hfr54 1)); (try (try simp only [show (k53).sz = 3 from rfl, Nat.mul_one, Nat.add_zero] at hf54_1)); (try (have hx54_2 := hcc54 2 _ rfl)); (try (try simp only [show (k53).sz = 3 from rfl, Nat.mul_one, Nat.add_zero] at hx54_2)); (try (have hf54_2 := hfr54 2)); (try (try simp only [show (k53).sz = 3 from rfl, Nat.mul_one, Nat.add_zero] at hf54_2)); (try (clear hcl54 hcc54 hfr54 hM54 hoki54 hH54)))); refine store_event (t := 53) (p := 87) (v := ?vo_w55) (w1 := (((w52.setCell ⟨go44, ((rd l2 x34_2) : Int).toNat * 3, none⟩ (.slice Ao53 t260.length co53)).setCell ⟨go44, ((rd l2 x34_2) : Int).toNat * 3 + 1, none⟩ (.int .i64 t263)).setCell ⟨go44, ((rd l2 x34_2) : Int).toNat * 3 + 2, none⟩ (.int .i64 t264))) ?hg ?ho ?hn ?hr ?_; (case ho => rfl); (case hg => rfl); (case hn => rfl); (case hr => exact zHH); intro w55 hw; have hg : w52.grownBy w55 (some go44) := (by rw [hw]; exact HP54.2); have hp_ : Kd.S k53 53 w55 w.heap.size (fun k_ => some k_ ≠ (.slice Ao17 x0_2.length co17 : Value).ownBlock) (.slice (some ⟨go44, 0, none⟩) x1_2.length co46) y266 := (by rw [hw, Ny266.1]; exact HP54.1); clear HP54; have n0_ := zM (Kd.R_over' (v := (.slice (some ⟨go44, 0, none⟩) x1_2.length co46)) (zR HO_0.1) (Kd.S_typed HO_1.1) (by decide) hg); have n1_ := zM hp_; have n2_ := zM (zg BK237.1 hg (Kd.S_ne HO_1.1 BK237.1 (by decide))); have n3_ := zM (zg BK258.1 hg (Kd.S_ne HO_1.1 BK258.1 (by decide))); have n4_ := zM ((by rw [hw]; exact below_set (below_set (below_set (HB.1) GB44.1) GB44.1) GB44.1 : Below w.heap.size w w55)); clear HO_0; clear HO_1; clear BK237; clear BK258; clear HB; clear HO262; have HO_0 := n0_; have HO_1 := n1_; have BK237 := n2_; have BK258 := n3_; have HB := n4_; clear n0_ n1_ n2_ n3_ n4_; clear hg hw hp_)); go_upto_region 14 with (first | (go_at_call 65; (with_reducible refine (impl_eventOf.calls kj31 _ _ x0_2 _ _ ((rd_T53 x1_2 (rd l2 x34_2)).f0) ((rd_T53 x1_2 (rd l2 x34_2)).f1) ((rd_T53 x1_2 (rd l2 x34_2)).f2) (rd l2 x34_2) t253 t254 t255 t256 t257 _ ?side1 ?side2 ?side3 ?side4 A42.1).mono ?_); (case side1 => exact zC (Kd.R_reads' HO_0.1).2.2); (case side2 => exact (Kd.R_reads' HO_0.1).2.1); (case side3 => exact zC HR252_0.1); (case side4 => exact HC252_0.1); rintro e w47 ⟨rfl, hb⟩; have n0_ := zM (Kd.R_below (zR HO_0.1) hb); have n1_ := zM (Kd.S_below (zS HO_1.1) hb); have n2_ := zM (Kd.R_below (zR HL252_0.1) hb); have n3_ := zM (zb BK237.1 hb); have n4_ := zM (Kd.C_below (zC HR252_0.1) hb); have n5_ := zM (below_step zB1 hb); clear HO_0; clear HO_1; clear HL252_0; clear BK237; clear HR252_0; clear HB; have HO_0 := n0_; have HO_1 := n1_; have HL252_0 := n2_; have BK237 := n3_; have HR252_0 := n4_; have HB := n5_; clear n0_ n1_ n2_ n3_ n4_ n5_; clear hb) | ((with_reducible refine gate_dst (N := 15) rfl ?_); (try (refine gate_guard (by rfl) ?_; dsimp only)); (with_reducible refine zBx 15 57 #[.int .i64 0, .int .i64 0, .int .i64 0, .int .i64 0, .int .i64 0] ?_); intro gb258 hg w48 hbox hb; have n0_ := zM (Kd.R_below (zR HO_0.1) hb); have n1_ := zM (Kd.S_below (zS HO_1.1) hb); have n2_ := zM (Kd.R_below (zR HL252_0.1) hb); have n3_ := zM (zb BK237.1 hb); have n4_ := zM (Kd.C_below (zC HR252_0.1) hb); have n5_ := zM (below_step zB1 hb); have n6_ := zM hbox; have n7_ := zM (zW hg (below_size zB1)); have n8_ := zM (zW hg (below_size zB1)); have n9_ := zM ((zn BK237.1 hg : gb237 ≠ gb258)); have n10_ := zM ((zm BK237.1 hg : gb258 ≠ gb237)); clear HO_0; clear HO_1; clear HL252_0; clear BK237; clear HR252_0; clear HB; have HO_0 := n0_; have HO_1 := n1_; have HL252_0 := n2_; have BK237 := n3_; have HR252_0 := n4_; have HB := n5_; have BK258 := n6_; have GW258 := n7_; have GE258 := n8_; have NB237_258 := n9_; have NB258_237 := n10_; clear n0_ n1_ n2_ n3_ n4_ n5_ n6_ n7_ n8_ n9_ n10_; clear hb hbox hg; have hnb49 := NB258_237.1; have hnc49 := NB237_258.1; have hcz50 := zc_5 (w := w48) BK258.1) | ((with_reducible refine gate_store (t := 57) (p := 15) rfl ?_); (try (rw [drewN_self w48]; generalize hq_ : World.drewN w48 _ = w48; have n0_ := zM (Kd.R_at hq_ HO_0.1); have n1_ := zM (Kd.S_at hq_ HO_1.1); have n2_ := zM (Kd.R_at hq_ HL252_0.1); have n3_ := zM (blk_at hq_ BK237.1); have n4_ := zM (blk_at hq_ BK258.1); have n5_ := zM (Kd.C_at hq_ HR252_0.1); have n6_ := zM (below_at hq_ HB.1); clear hq_ HO_0 HO_1 HL252_0 BK237 BK258 HR252_0 HB; have HO_0 := n0_; have HO_1 := n1_; have HL252_0 := n2_; have BK237 := n3_; have BK258 := n4_; have HR252_0 := n5_; have HB := n6_; clear n0_ n1_ n2_ n3_ n4_ n5_ n6_)); refine store_event (t := 57) (p := 15) (v := ?vo_w51) (w1 := (((((w48.setCell ⟨gb258, 0, none⟩ (.int .i64 t253)).setCell ⟨gb258, 1, none⟩ (.int .i64 t254)).setCell ⟨gb258, 2, none⟩ (.int .i64 t255)).setCell ⟨gb258, 3, none⟩ (.int .i64 t256)).setCell ⟨gb258, 4, none⟩ (.int .i64 t257))) ?hg ?ho ?hn ?hr ?_; (case ho => rfl); (case hg => rfl); (case hn => rfl); (case hr => exact zHH); intro w51 hw; have n0_ : Aside0 (Kd.R (Kd.int .i64) 3 w51 w.heap.size (fun _ => True) (.slice Ao17 x0_2.length co17) x0_2) := ⟨(by rw [hw]; exact (by refine zrR ?_; exact Kd.R_mono (zfR (zfR (zfR (zfR (zfR (Kd.R_types HO_0.1 BK258.1 (by decide))))))) (fun _ hk => trivial)))⟩; have n1_ : Aside0 (Kd.S k53 53 w51 w.heap.size (fun k_ => some k_ ≠ (.slice Ao17 x0_2.length co17 : Value).ownBlock) (.slice (some ad252) x1_2.length co46) x1_2) := ⟨(by rw [hw]; exact (by refine zrS ?_; exact Kd.S_mono (zfS (zfS (zfS (zfS (zfS (Kd.S_types HO_1.1 BK258.1 (by decide))))))) (fun _ hk => hk.1)))⟩; have n2_ : Aside0 (Kd.R (Kd.int .i64) 3 w51 w.heap.size (fun k_ => some k_ ≠ (.slice Ao17 x0_2.length co17 : Value).ownBlock ∧ some k_ ≠ (.slice (some ad252) x1_2.length co46 : Value).ownBlock) (.slice A252_0 ((rd_T53 x1_2 (rd l2 x34_2)).f0).length c252_0) ((rd_T53 x1_2 (rd l2 x34_2)).f0)) := ⟨(by rw [hw]; exact (by refine zrR ?_; exact Kd.R_mono (zfR (zfR (zfR (zfR (zfR (Kd.R_types HL252_0.1 BK258.1 (by decide))))))) (fun _ hk => ⟨hk.1.1, hk.1.2⟩)))⟩; have n3_ : Aside0 (w51.heap[gb237]? = some (.cells #[.slice A3_0 l3_0.length c3_0, .slice A3_1 l3_1.length c3_1] 27 (0, 0))) := ⟨(by rw [hw]; exact zPq)⟩; have n4_ : Aside0 (w51.heap[gb258]? = some (.cells #[.int .i64 t253, .int .i64 t254, .int .i64 t255, .int .i64 t256, .int .i64 t257] 57 (0, 0))) := ⟨(by rw [hw]; exact (by exact zp5 (zK BK258.1)))⟩; have n5_ : Aside0 (Below w.heap.size w w51) := ⟨(by rw [hw]; exact zB1)⟩; clear hw; clear HO_0; clear HO_1; clear HL252_0; clear BK237; clear BK258; clear HB; have HO_0 := n0_; have HO_1 := n1_; have HL252_0 := n2_; have BK237 := n3_; have BK258 := n4_; have HB := n5_; clear n0_ n1_ n2_ n3_ n4_ n5_; have p259 : 0 ≤ ((rd l2 x34_2) : Int) := zA; have q259 : (rd l2 x34_2) < (x1_2.length : Int) := zA; obtain ⟨ad259, A259_0, c259_0, e259, hx259_0, hx259_1, hx259_2, hl259_0, hi259_0⟩ := at_T53 (Kd.S_reads' HO_1.1).2.2 (rd l2 x34_2) p259 q259; obtain rfl : ad252 = ad259 := (by injection e259); obtain ⟨ce259, hce259, hMe259, hcc259⟩ := Kd.S_get HO_1.1 z53 (rd l2 x34_2) p259 (by first | exact q259 | exact zA | (have e_ := (Kd.S_reads' HO_1.1).1; omega)); obtain ⟨ve259_0, rfl, ge259_0⟩ := k53_openM hMe259; have hv259_0 := hcc259 0 _ rfl; rw [Nat.add_zero] at hv259_0; replace hv259_0 := Option.some.inj (hv259_0.symm.trans hx259_0); rw [hv259_0] at ge259_0; have HL259_0 := zM (show Kd.R (Kd.int .i64) 3 _ _ _ _ ((rd_T53 x1_2 (rd l2 x34_2)).f0) from ge259_0); clear hv259_0 ge259_0; clear hcc259 hce259; have HR259_0 := zM hi259_0; have HC259_0 := zM hl259_0; clear hi259_0 hl259_0; replace p259 := eq_true p259; replace q259 := eq_true q259) | (go_at_call 66; (with_reducible refine (impl_step.calls kj31 (fun k_ => some k_ = (.slice Ao17 x0_2.length co17 : Value).ownBlock) (.slice Ao17 x0_2.length co17) x0_2 _ _ ((rd_T53 x1_2 (rd l2 x34_2)).f0) ((rd_T53 x1_2 (rd l2 x34_2)).f1) ((rd_T53 x1_2 (rd l2 x34_2)).f2) t260 t263 t264 t265 w _ ?side1 ?side2 ?side3 ?side4 A43.1).mono ?_); (case side1 => exact zB1); (case side2 => exact Kd.R_tight rfl HO_0.1); (case side3 => exact Kd.C_kept_own (HL259_0.1) (fun k_ hk_ hs_ => (hk_.1) hs_)); (case side4 => exact HC259_0.1); rintro e w52 ⟨v261, rfl, ho0, hy0, hb, hkp⟩; have n0_ := zM (Kd.R_reok rfl hy0 (fun k_ e_ => HO_0.1.1 k_ e_)); have n1_ := zM (Kd.S_mono (ok' := fun k_ => some k_ ≠ (.slice Ao17 x0_2.length co17 : Value).ownBlock ∧ some k_ ≠ (v261 : Value).ownBlock) (Kd.S_keptB (HO_1.1) hkp (fun k_ hk_ hs_ => (hk_) hs_)) (fun k_ hk_ => ⟨hk_.1, fun e_ => Or.elim (ho0.1 k_ e_.symm).1 (fun hs_ => hk_.2.1 hs_) (fun hn_ => Nat.not_le.2 hk_.2.2 hn_)⟩)); have n2_ := zM (blk_kept (zK BK237.1) hkp (fun hs_ => (fun e_ => (Kd.R_ne HO_0.1 BK237.1 (by decide)) e_) hs_)); have n3_ := zM (blk_kept (zK BK258.1) hkp (fun hs_ => (fun e_ => (Kd.R_ne HO_0.1 BK258.1 (by decide)) e_) hs_)); have n4_ := zM (Kd.R_mono (ok' := fun k_ => some k_ ≠ (.slice Ao17 x0_2.length co17 : Value).ownBlock) ho0 (fun k_ hk_ => hk_.2)); have n5_ := zM hb; clear HO_0; clear HO_1; clear BK237; clear BK258; clear HB; clear HL252_0; clear HL259_0; have HO_0 := n0_; have HO_1 := n1_; have BK237 := n2_; have BK258 := n3_; have HO262 := n4_; have HB := n5_; clear n0_ n1_ n2_ n3_ n4_ n5_; clear hb hkp ho0 hy0; have p44 : 0 ≤ ((rd l2 x34_2) : Int) := zA; have q44 : ((rd l2 x34_2) : Int) < ((x1_2.length : Int) : Int) := zA; obtain ⟨go44, co44, eo44, gb44, gl44, cl44, HG44⟩ := Kd.S_form HO_1.1 (by omega); (first | cases eo44 | (injection eo44 with ea_ en_ ec_; (first | subst ea_ | (injection ea_ with ea_; subst ea_)); subst ec_; clear en_)); have GB44 := zM gb44; have GG44 := zM HG44; clear gb44 gl44 HG44; (first | simp only [add_plain] at hx252_0 | skip); (first | simp only [add_plain] at hx252_1 | skip); (first | simp only [add_plain] at hx252_2 | skip); (first | simp only [add_plain] at hx259_0 | skip); (first | simp only [add_plain] at hx259_1 | skip); (first | simp only [add_plain] at hx259_2 | skip); obtain ⟨_, ce44, hcl44, hM44, hcc44, hfr44, _, _⟩ := Kd.S_elem HO_1.1 z53 ((rd l2 x34_2) : Int) p44 q44; obtain ⟨ve44_0, rfl, ge44_0⟩ := k53_openM hM44; have hx44_0 : w52.cell? ⟨go44, ((rd l2 x34_2) : Int).toNat * 3, none⟩ = some (ve44_0) := hcc44 0 _ rfl; have hx44_1 : w52.cell? ⟨go44, ((rd l2 x34_2) : Int).toNat * 3 + 1, none⟩ = some (.int .i64 ((rd_T53 x1_2 (rd l2 x34_2)).f1)) := hcc44 1 _ rfl; have hx44_2 : w52.cell? ⟨go44, ((rd l2 x34_2) : Int).toNat * 3 + 2, none⟩ = some (.int .i64 ((rd_T53 x1_2 (rd l2 x34_2)).f2)) := hcc44 2 _ rfl; have hf44_0 : w52.frozen? ⟨go44, ((rd l2 x34_2) : Int).toNat * 3, none⟩ = false := hfr44 0; have hf44_1 : w52.frozen? ⟨go44, ((rd l2 x34_2) : Int).toNat * 3 + 1, none⟩ = false := hfr44 1; have hf44_2 : w52.frozen? ⟨go44, ((rd l2 x34_2) : Int).toNat * 3 + 2, none⟩ = false := hfr44 2; clear hcl44 hcc44 hfr44 hM44; replace p44 := eq_true p44; replace q44 := eq_true q44; obtain ⟨Ao53, co53, eo53⟩ := Kd.R_slice HO262.1; subst eo53; have HX54 := zM (show Kd.S k53 53 w52 w.heap.size (fun k_ => ((fun k_ => some k_ ≠ (.slice Ao17 x0_2.length co17 : Value).ownBlock)) k_ ∧ ¬ ((fun k_ => some k_ = (.slice Ao53 t260.length co53 : Value).ownBlock)) k_) (.slice (some ⟨go44, 0, none⟩) x1_2.length co46) x1_2 from (by refine zrS ?_; exact Kd.S_mono HO_1.1 (fun k_ hk => ⟨hk.1, fun e_ => hk.2 e_⟩))); obtain ⟨oki54, ce54, hcl54, hM54, hcc54, hfr54, hoki54, hH54⟩ := Kd.S_elem HX54.out z53 ((rd l2 x34_2) : Int) zA (by have h_ : ((rd l2 x34_2) : Int) < ((x1_2.length : Int) : Int) := zA; first | exact h_ | (have e_ := (Kd.S_reads' HO_1.1).1; omega) | simpa using h_); obtain ⟨ve54_0, rfl, ge54_0⟩ := k53_openM hM54; have HP54 := Kd.S_seg hH54 zA (by have h_ : ((rd l2 x34_2) : Int) < ((x1_2.length : Int) : Int) := zA; first | exact h_ | (have e_ := (Kd.S_reads' HO_1.1).1; omega) | simpa using h_) (seg := [.slice Ao53 t260.length co53, .int .i64 t263, .int .i64 t264]) (j := 0) (show 3 ≤ 3 from by decide) (x' := (⟨t260, t263, t264⟩ : S53)) (k53_mkM _ _ _ (⟨t260, t263, t264⟩ : S53) (Kd.R_mono (Kd.R_tight rfl (Kd.R_mono (ok' := fun k_ => ((fun k_ => some k_ ≠ (.slice Ao17 x0_2.length co17 : Value).ownBlock)) k_ ∧ k_ ≠ go44) (Kd.R_apart' (HO262.1) (Kd.S_typed HO_1.1) (by decide)) (fun k_ hk => ⟨hk.1, fun e_ => (hk.2) (by rw [e_]; rfl)⟩))) (fun _ h_ => Or.inr (h_)))) (fun _ hk => hk) (fun k_ hk_ => ((Kd.R_mono (ok' := fun k_ => ((fun k_ => some k_ ≠ (.slice Ao17 x0_2.length co17 : Value).ownBlock)) k_ ∧ k_ ≠ go44) (Kd.R_apart' (HO262.1) (Kd.S_typed HO_1.1) (by decide)) (fun k_ hk => ⟨hk.1, fun e_ => (hk.2) (by rw [e_]; rfl)⟩))).1 k_ hk_.symm); have hx54_0 := hcc54 0 _ rfl; (try simp only [show (k53).sz = 3 from rfl, Nat.mul_one, Nat.add_zero] at hx54_0); have hf54_0 := hfr54 0; (try simp only [show (k53).sz = 3 from rfl, Nat.mul_one, Nat.add_zero] at hf54_0); have hx54_1 := hcc54 1 _ rfl; (try simp only [show (k53).sz = 3 from rfl, Nat.mul_one, Nat.add_zero] at hx54_1); have hf54_1 := hfr54 1; (try simp only [show (k53).sz = 3 from rfl, Nat.mul_one, Nat.add_zero] at hf54_1); have hx54_2 := hcc54 2 _ rfl; (try simp only [show (k53).sz = 3 from rfl, Nat.mul_one, Nat.add_zero] at hx54_2); have hf54_2 := hfr54 2; (try simp only [show (k53).sz = 3 from rfl, Nat.mul_one, Nat.add_zero] at hf54_2); clear hcl54 hcc54 hfr54 hM54 hoki54 hH54) | ((with_reducible refine gate_store (t := 53) (p := 87) rfl ?_); (try (rw [drewN_self w52]; generalize hq_ : World.drewN w52 _ = w52; have n0_ := zM (Kd.R_at hq_ HO_0.1); have n1_ := zM (Kd.S_at hq_ HO_1.1); have n2_ := zM (blk_at hq_ BK237.1); have n3_ := zM (blk_at hq_ BK258.1); have n4_ := zM (below_at hq_ HB.1); clear hq_ HO_0 HO_1 BK237 BK258 HB; have HO_0 := n0_; have HO_1 := n1_; have BK237 := n2_; have BK258 := n3_; have HB := n4_; clear n0_ n1_ n2_ n3_ n4_; (try (have HX54 := zM (show Kd.S k53 53 w52 w.heap.size (fun k_ => ((fun k_ => some k_ ≠ (.slice Ao17 x0_2.length co17 : Value).ownBlock)) k_ ∧ ¬ ((fun k_ => some k_ = (.slice Ao53 t260.length co53 : Value).ownBlock)) k_) (.slice (some ⟨go44, 0, none⟩) x1_2.length co46) x1_2 from (by refine zrS ?_; exact Kd.S_mono HO_1.1 (fun k_ hk => ⟨hk.1, fun e_ => hk.2 e_⟩))))); (try (obtain ⟨oki54, ce54, hcl54, hM54, hcc54, hfr54, hoki54, hH54⟩ := Kd.S_elem HX54.out z53 ((rd l2 x34_2) : Int) zA (by have h_ : ((rd l2 x34_2) : Int) < ((x1_2.length : Int) : Int) := zA; first | exact h_ | (have e_ := (Kd.S_reads' HO_1.1).1; omega) | simpa using h_))); (try (obtain ⟨ve54_0, rfl, ge54_0⟩ := k53_openM hM54)); (try (have HP54 := Kd.S_seg hH54 zA (by have h_ : ((rd l2 x34_2) : Int) < ((x1_2.length : Int) : Int) := zA; first | exact h_ | (have e_ := (Kd.S_reads' HO_1.1).1; omega) | simpa using h_) (seg := [.slice Ao53 t260.length co53, .int .i64 t263, .int .i64 t264]) (j := 0) (show 3 ≤ 3 from by decide) (x' := (⟨t260, t263, t264⟩ : S53)) (k53_mkM _ _ _ (⟨t260, t263, t264⟩ : S53) (Kd.R_mono (Kd.R_tight rfl (Kd.R_mono (ok' := fun k_ => ((fun k_ => some k_ ≠ (.slice Ao17 x0_2.length co17 : Value).ownBlock)) k_ ∧ k_ ≠ go44) (Kd.R_apart' (HO262.1) (Kd.S_typed HO_1.1) (by decide)) (fun k_ hk => ⟨hk.1, fun e_ => (hk.2) (by rw [e_]; rfl)⟩))) (fun _ h_ => Or.inr (h_)))) (fun _ hk => hk) (fun k_ hk_ => ((Kd.R_mono (ok' := fun k_ => ((fun k_ => some k_ ≠ (.slice Ao17 x0_2.length co17 : Value).ownBlock)) k_ ∧ k_ ≠ go44) (Kd.R_apart' (HO262.1) (Kd.S_typed HO_1.1) (by decide)) (fun k_ hk => ⟨hk.1, fun e_ => (hk.2) (by rw [e_]; rfl)⟩))).1 k_ hk_.symm))); (try (have hx54_0 := hcc54 0 _ rfl)); (try (try simp only [show (k53).sz = 3 from rfl, Nat.mul_one, Nat.add_zero] at hx54_0)); (try (have hf54_0 := hfr54 0)); (try (try simp only [show (k53).sz = 3 from rfl, Nat.mul_one, Nat.add_zero] at hf54_0)); (try (have hx54_1 := hcc54 1 _ rfl)); (try (try simp only [show (k53).sz = 3 from rfl, Nat.mul_one, Nat.add_zero] at hx54_1)); (try (have hf54_1 := hfr54 1)); (try (try simp only [show (k53).sz = 3 from rfl, Nat.mul_one, Nat.add_zero] at hf54_1)); (try (have hx54_2 := hcc54 2 _ rfl)); (try (try simp only [show (k53).sz = 3 from rfl, Nat.mul_one, Nat.add_zero] at hx54_2)); (try (have hf54_2 := hfr54 2)); (try (try simp only [show (k53).sz = 3 from rfl, Nat.mul_one, Nat.add_zero] at hf54_2)); (try (clear hcl54 hcc54 hfr54 hM54 hoki54 hH54)))); refine store_event (t := 53) (p := 87) (v := ?vo_w55) (w1 := (((w52.setCell ⟨go44, ((rd l2 x34_2) : Int).toNat * 3, none⟩ (.slice Ao53 t260.length co53)).setCell ⟨go44, ((rd l2 x34_2) : Int).toNat * 3 + 1, none⟩ (.int .i64 t263)).setCell ⟨go44, ((rd l2 x34_2) : Int).toNat * 3 + 2, none⟩ (.int .i64 t264))) ?hg ?ho ?hn ?hr ?_; (case ho => rfl); (case hg => rfl); (case hn => rfl); (case hr => exact zHH); intro w55 hw; have hg : w52.grownBy w55 (some go44) := (by rw [hw]; exact HP54.2); have hp_ : Kd.S k53 53 w55 w.heap.size (fun k_ => some k_ ≠ (.slice Ao17 x0_2.length co17 : Value).ownBlock) (.slice (some ⟨go44, 0, none⟩) x1_2.length co46) y266 := (by rw [hw, Ny266.1]; exact HP54.1); clear HP54; have n0_ := zM (Kd.R_over' (v := (.slice (some ⟨go44, 0, none⟩) x1_2.length co46)) (zR HO_0.1) (Kd.S_typed HO_1.1) (by decide) hg); have n1_ := zM hp_; have n2_ := zM (zg BK237.1 hg (Kd.S_ne HO_1.1 BK237.1 (by decide))); have n3_ := zM (zg BK258.1 hg (Kd.S_ne HO_1.1 BK258.1 (by decide))); have n4_ := zM ((by rw [hw]; exact below_set (below_set (below_set (HB.1) GB44.1) GB44.1) GB44.1 : Below w.heap.size w w55)); clear HO_0; clear HO_1; clear BK237; clear BK258; clear HB; clear HO262; have HO_0 := n0_; have HO_1 := n1_; have BK237 := n2_; have BK258 := n3_; have HB := n4_; clear n0_ n1_ n2_ n3_ n4_; clear hg hw hp_)))
         (try simp only [Act.put, List.setIfInBounds_toArray, List.set_cons_zero, List.set_cons_succ])
         go_cut [97] (fun v97 wc => ∃ (kq : Nat) (x97_44 : Bool), v97 = .bool x97_44 ∧ Aside0 (impl_RunTo.j4 kq t265 y266 l2 t245 x34_2 l2 (l2.length : Int) x34_2 x97_44 l3_0 l3_1 = some (r1, r2, r3, r4)) ∧ Aside0 (kq ≤ kj31) ∧ Aside0 (Kd.R (Kd.int .i64) 3 wc w.heap.size (fun _ => True) (.slice Ao17 x0_2.length co17) t265) ∧ Aside0 (Kd.S k53 53 wc w.heap.size (fun k_ => some k_ ≠ ((.slice Ao17 x0_2.length co17) : Value).ownBlock) (.slice (some ⟨go44, 0, none⟩) x1_2.length co46) y266) ∧ Aside0 (wc.heap[gb237]? = some (.cells #[(.slice A3_0 l3_0.length c3_0), (.slice A3_1 l3_1.length c3_1)] 27 (0, 0))) ∧ Aside0 (wc.heap[gb258]? = some (.cells #[.int .i64 t253, .int .i64 t254, .int .i64 t255, .int .i64 t256, .int .i64 t257] 57 (0, 0))) ∧ Aside0 (Below w.heap.size w wc))
         case first =>
          have H := HC45.1
          clear HC45
          by_cases c56 : t257 ≥ 0
          rotate_left
          ·rw [if_neg c56] at H
           have c56b0 := decide_eq_false c56
           clear c56
           (first | rw [c56b0] | (simp only [i64_w, i32_w]; rw [c56b0]) | skip)
           have H' := zM H
           clear H
           have hnb61 := NB258_237.1
           have hnc61 := NB237_258.1
           have hcz62 := zc_5 (w := w55) BK258.1
           go_wp2
           repeat (go_quiet (fail); try go_wp2)
           go_meet
           case rel => exact ⟨_, (false), zJJ, H', ⟨by have := HJ6.1; have := HK2.1; have := HJ20.1; have := HJ31.1; first | omega | exact Nat.le_refl _⟩, ⟨by (try simp only [hl0_2]); (with_reducible repeat (first | apply Kd.R_alloc | apply Kd.R_drewN | apply Kd.R_drew)); exact HO_0.1⟩, ⟨by (try simp only [hl0_2]); (with_reducible repeat (first | apply Kd.S_alloc | apply Kd.S_drewN | apply Kd.S_drew)); exact HO_1.1⟩, ⟨by (try simp only [hl0_2]); refine zP ?_; exact BK237.1⟩, ⟨by (try simp only [hl0_2]); refine zP ?_; exact BK258.1⟩, ⟨zB1⟩⟩
          rw [if_pos c56] at H
          have c56b0 := decide_eq_true c56
          clear c56
          (first | rw [c56b0] | (simp only [i64_w, i32_w]; rw [c56b0]) | skip)
          replace H := zO H
          obtain ⟨t267, A57, H⟩ := H
          have H' := zM H
          clear H
          have hnb58 := NB258_237.1
          have hnc58 := NB237_258.1
          have hcz59 := zc_5 (w := w55) BK258.1
          have hcz60 := zc_2 (w := w55) BK237.1
          go_wp2_with (first | (go_at_call 64; (with_reducible refine (slices_Contains_int_int.calls kj31 _ _ l3_1 t255 t267 _ ?side1 ?side2 A57.1).mono ?_); (case side1 => exact zC (Kd.C_below HR3_1.1 HB.1)); (case side2 => exact HC3_1.1); rintro e w' ⟨rfl, ⟨nd, rfl⟩⟩; (try first | exact ⟨rfl, _, World.drewN_drewN _ _ _⟩ | exact ⟨rfl, _, Eq.trans (World.drewN_drewN _ _ _) (congrArg (World.drewN _) (Nat.add_assoc _ _ _))⟩)))
          repeat (go_quiet (first | (go_at_call 64; (with_reducible refine (slices_Contains_int_int.calls kj31 _ _ l3_1 t255 t267 _ ?side1 ?side2 A57.1).mono ?_); (case side1 => exact zC (Kd.C_below HR3_1.1 HB.1)); (case side2 => exact HC3_1.1); rintro e w' ⟨rfl, ⟨nd, rfl⟩⟩; (try first | exact ⟨rfl, _, World.drewN_drewN _ _ _⟩ | exact ⟨rfl, _, Eq.trans (World.drewN_drewN _ _ _) (congrArg (World.drewN _) (Nat.add_assoc _ _ _))⟩))); try go_wp2_with (first | (go_at_call 64; (with_reducible refine (slices_Contains_int_int.calls kj31 _ _ l3_1 t255 t267 _ ?side1 ?side2 A57.1).mono ?_); (case side1 => exact zC (Kd.C_below HR3_1.1 HB.1)); (case side2 => exact HC3_1.1); rintro e w' ⟨rfl, ⟨nd, rfl⟩⟩; (try first | exact ⟨rfl, _, World.drewN_drewN _ _ _⟩ | exact ⟨rfl, _, Eq.trans (World.drewN_drewN _ _ _) (congrArg (World.drewN _) (Nat.add_assoc _ _ _))⟩))))
          go_meet
          case rel => exact ⟨_, (t267), zJJ, H', ⟨by have := HJ6.1; have := HK2.1; have := HJ20.1; have := HJ31.1; first | omega | exact Nat.le_refl _⟩, ⟨by (try simp only [hl0_2]); (with_reducible repeat (first | apply Kd.R_alloc | apply Kd.R_drewN | apply Kd.R_drew)); exact HO_0.1⟩, ⟨by (try simp only [hl0_2]); (with_reducible repeat (first | apply Kd.S_alloc | apply Kd.S_drewN | apply Kd.S_drew)); exact HO_1.1⟩, ⟨by (try simp only [hl0_2]); refine zP ?_; exact BK237.1⟩, ⟨by (try simp only [hl0_2]); refine zP ?_; exact BK258.1⟩, ⟨zB1⟩⟩
         case rest =>
          clear HC45
          try clear hf4
          try clear hf5
          try clear hf44
          try clear hf54
          obtain ⟨kq, x97_44, rfl, HA, HJ44, HO_0, HO_1, BK237, BK258, HB⟩ := hcut
          have hl0_44 := (Kd.R_reads' HO_0.1).1
          rw [hl0_44] at HO_0
          (try simp only [hl0_44])
          (try simp only [hl0_44] at BK237)
          (try simp only [hl0_44] at BK258)
          (try simp only [hl0_44] at HO_1)
          have hl1_44 := (Kd.S_reads' HO_1.1).1
          rw [hl1_44] at HO_1
          (try simp only [hl1_44])
          (try simp only [hl1_44] at BK237)
          (try simp only [hl1_44] at BK258)
          (try simp only [hl1_44] at HO_0)
          cases kq with
          | zero => exact absurd HA.1 (by simp [impl_RunTo.j4])
          | succ kj44 =>
           have H := HA.1
           clear HA
           simp only [impl_RunTo.j4] at H
           by_cases c63 : x97_44 = true
           ·subst c63
            rw [if_pos rfl] at H
            simp only [Option.some.injEq, Prod.mk.injEq] at H
            obtain ⟨rfl, rfl, rfl, rfl⟩ := H
            go_wp2
            repeat (go_quiet (fail); try go_wp2)
            refine bodyPost_ret (results_list (rs := [.tmp 8, .tmp 9, .tmp 10, .tmp 11]) rfl (by simp) (.tmp (.tmp (.tmp (.tmp .nil))))) rfl ?_
            exact ⟨_, _, zE, zR HO_0.1, zS HO_1.1, zB1⟩
           replace c63 := Bool.eq_false_iff.mpr c63
           subst c63
           rw [if_neg zF] at H
           have H' := zM H
           clear H
           go_wp2
           repeat (go_quiet (fail); try go_wp2)
           (try simp only [← hl0_2, ← hl0_44, ← hl1_44])
           go_roundg kj44
           case measure => have := HJ6.1; have := HK2.1; have := HJ20.1; have := HJ31.1; have := HJ44.1; omega
           case rel => exact ⟨(t265), (y266), (wrap64 (x34_2 + 1)), zJJ, H', ⟨by have := HJ6.1; have := HK2.1; have := HJ20.1; have := HJ31.1; have := HJ44.1; omega⟩, ⟨by (try simp only [hl0_2]); (try simp only [hl0_44]); (try simp only [hl1_44]); (with_reducible repeat (first | apply Kd.R_alloc | apply Kd.R_drewN | apply Kd.R_drew)); exact HO_0.1⟩, ⟨by (try simp only [hl0_2]); (try simp only [hl0_44]); (try simp only [hl1_44]); (with_reducible repeat (first | apply Kd.S_alloc | apply Kd.S_drewN | apply Kd.S_drew)); exact HO_1.1⟩, ⟨by (try simp only [hl0_2]); (try simp only [hl0_44]); (try simp only [hl1_44]); refine zP ?_; exact BK237.1⟩, ⟨zB1⟩⟩

end Go.Proofs.Ytpcgecacaemalaa.PFnExactRunTo
