-- made by wip/tools/myprint.py out of the seat's translation
import Derived.Test.YtnjdepmlpdjghaaPFnAllEndsx0
import Derived.Test.YtnjdepmlpdjghaaPFnAllEndsx6
import Derived.Test.YtnjdepmlpdjghaaPFnAllEndsx7
import Derived.Test.YtnjdepmlpdjghaaPFnAllEndsx8
namespace Go.Proofs.Ytnjdepmlpdjghaa.PFnAllEnds
open Go.RowKit Go.Proofs.YtnjdepmlpdjghaaW.PrintWords Go.Proofs.YtnjdepmlpdjghaaW.PrintLast Go.Proofs.YtnjdepmlpdjghaaW.PrintMore
attribute [local go_sem] max2_int min2_int max_two min_two max_three min_three max_four min_four   -- for this text's walks alone
set_option linter.unusedVariables false
set_option linter.unusedSimpArgs false
set_option maxHeartbeats 8000000
set_option maxRecDepth 100000
abbrev zq9_0 : Array Bool := #[false, false, false, false, false, false, false, false, false, false]
abbrev zq9_10 : Array Bool := #[true, true, true, true, true, true, true, true, true, true]

/-! ### impl_Work: function 89 -/
mutual
def impl_Work.j0 : Nat → Int → Bool → List Int → Int → Int → Int → Int → Int → Int → Int → Option (List Int × Int × Int × Int)
 | 0, _, _, _, _, _, _, _, _, _, _ => none
 | k + 1, x2, x26, x272000, x272001, x272002, x273000, x273001, x273002, x273003, x273004 => if x26 = true then (some (x272000, x272001, x272002, (-1))) else ((impl_InsOk.f x273000 x273001 x273002 x273003 x273004).bind fun t281 => (impl_Work.j1 k x2 (!t281) x272000 x272001 x272002 x273000 x273001 x273002 x273003 x273004))
def impl_Work.j1 : Nat → Int → Bool → List Int → Int → Int → Int → Int → Int → Int → Int → Option (List Int × Int × Int × Int)
 | 0, _, _, _, _, _, _, _, _, _, _ => none
 | k + 1, x2, x30, x272000, x272001, x272002, x273000, x273001, x273002, x273003, x273004 => if x30 = true then (some (x272000, x272001, 2, (-1))) else (if 0 ≤ x273002 then (if x273002 < (x272000.length : Int) then (if 0 ≤ x273003 then (if x273003 < (x272000.length : Int) then ((impl_address.f (wrap64 (x272001 + 1))).bind fun t284 => (impl_Work.j2 k x2 (rd x272000 x273002) (rd x272000 x273003) (-1) t284 x273000 x272000 x272001 x272002 x273000 x273001 x273002 x273003 x273004)) else (none)) else (none)) else (none)) else (none))
def impl_Work.j2 : Nat → Int → Int → Int → Int → Int → Int → List Int → Int → Int → Int → Int → Int → Int → Int → Option (List Int × Int × Int × Int)
 | 0, _, _, _, _, _, _, _, _, _, _, _, _, _, _ => none
 | k + 1, x2, x8, x9, x10, x11, x50, x272000, x272001, x272002, x273000, x273001, x273002, x273003, x273004 => if x50 = 1 then (if 0 ≤ x273001 then (if x273001 < (x272000.length : Int) then (impl_Work.j3 k x10 x11 (x272000.set (x273001 : Int).toNat x273004) x272001 x272002) else (none)) else (none)) else (if x50 = 2 then ((impl_wrapped.f (wrap64 (x8 + x9))).bind fun t286 => (if 0 ≤ x273001 then (if x273001 < (x272000.length : Int) then (impl_Work.j3 k x10 x11 (x272000.set (x273001 : Int).toNat t286) x272001 x272002) else (none)) else (none))) else (if x50 = 10 then ((impl_wrapped.f (wrap64 (x8 - x9))).bind fun t288 => (if 0 ≤ x273001 then (if x273001 < (x272000.length : Int) then (impl_Work.j3 k x10 x11 (x272000.set (x273001 : Int).toNat t288) x272001 x272002) else (none)) else (none))) else (if x50 = 3 then ((impl_wrapped.f (wrap64 (x8 + x273004))).bind fun t290 => (if 0 ≤ x273001 then (if x273001 < (x272000.length : Int) then (impl_Work.j3 k x10 x11 (x272000.set (x273001 : Int).toNat t290) x272001 x272002) else (none)) else (none))) else (if x50 = 4 then (if 0 ≤ x273001 then (if x273001 < (x272000.length : Int) then (impl_Work.j3 k x10 x11 (x272000.set (x273001 : Int).toNat x2) x272001 x272002) else (none)) else (none)) else (if x50 = 5 then (impl_Work.j3 k x9 x11 x272000 x272001 x272002) else (if x50 = 6 then (if 0 ≤ x273001 then (if x273001 < (x272000.length : Int) then ((impl_wrapped.f (wrap64 (x2 + x9))).bind fun t294 => (impl_Work.j3 k t294 x11 (x272000.set (x273001 : Int).toNat x2) x272001 x272002)) else (none)) else (none)) else (if x50 = 7 then (if x8 = 0 then ((impl_address.f x273004).bind fun t295 => (impl_Work.j3 k x10 t295 x272000 x272001 x272002)) else (impl_Work.j3 k x10 x11 x272000 x272001 x272002)) else (if x50 = 8 then ((impl_address.f x273004).bind fun t296 => (impl_Work.j3 k x10 t296 x272000 x272001 x272002)) else (if x50 = 9 then (impl_Work.j3 k x10 x272001 x272000 x272001 1) else (impl_Work.j3 k x10 x11 x272000 x272001 x272002))))))))))
def impl_Work.j3 : Nat → Int → Int → List Int → Int → Int → Option (List Int × Int × Int × Int)
 | 0, _, _, _, _, _ => none
 | k + 1, x10, x11, x272000, x272001, x272002 => some (x272000, x11, x272002, x10)
end
def impl_Work.f (k : Nat) (l0_0 : List Int) (a0_1 : Int) (a0_2 : Int) (a1_0 : Int) (a1_1 : Int) (a1_2 : Int) (a1_3 : Int) (a1_4 : Int) (a2 : Int) : Option (List Int × Int × Int × Int) := (impl_copyHart.f l0_0 a0_1 a0_2).bind fun bt274 => ((impl_HartOk.f k bt274.1 bt274.2.1 bt274.2.2).bind fun t279 => (if t279 = true then (if bt274.2.2 = 0 then ((impl_isWord.f a2).bind fun t280 => (impl_Work.j0 k a2 (!t280) bt274.1 bt274.2.1 bt274.2.2 a1_0 a1_1 a1_2 a1_3 a1_4)) else (impl_Work.j0 k a2 true bt274.1 bt274.2.1 bt274.2.2 a1_0 a1_1 a1_2 a1_3 a1_4)) else (impl_Work.j0 k a2 true bt274.1 bt274.2.1 bt274.2.2 a1_0 a1_1 a1_2 a1_3 a1_4)))
theorem impl_Work.mono_l : ∀ k, (∀ y0 y1 y2 y3 y4 y5 y6 y7 y8 y9, LeO (impl_Work.j0 k y0 y1 y2 y3 y4 y5 y6 y7 y8 y9) (impl_Work.j0 (k + 1) y0 y1 y2 y3 y4 y5 y6 y7 y8 y9)) ∧ (∀ y0 y1 y2 y3 y4 y5 y6 y7 y8 y9, LeO (impl_Work.j1 k y0 y1 y2 y3 y4 y5 y6 y7 y8 y9) (impl_Work.j1 (k + 1) y0 y1 y2 y3 y4 y5 y6 y7 y8 y9)) ∧ (∀ y0 y1 y2 y3 y4 y5 y6 y7 y8 y9 y10 y11 y12 y13, LeO (impl_Work.j2 k y0 y1 y2 y3 y4 y5 y6 y7 y8 y9 y10 y11 y12 y13) (impl_Work.j2 (k + 1) y0 y1 y2 y3 y4 y5 y6 y7 y8 y9 y10 y11 y12 y13)) ∧ (∀ y0 y1 y2 y3 y4, LeO (impl_Work.j3 k y0 y1 y2 y3 y4) (impl_Work.j3 (k + 1) y0 y1 y2 y3 y4))
 | 0 => ⟨fun _ _ _ _ _ _ _ _ _ _ r h => by simp [impl_Work.j0] at h, fun _ _ _ _ _ _ _ _ _ _ r h => by simp [impl_Work.j1] at h, fun _ _ _ _ _ _ _ _ _ _ _ _ _ _ r h => by simp [impl_Work.j2] at h, fun _ _ _ _ _ r h => by simp [impl_Work.j3] at h⟩
 | k + 1 => by
  obtain ⟨ih0, ih1, ih2, ih3⟩ := impl_Work.mono_l k
  refine ⟨?_, ?_, ?_, ?_⟩
  ·intros
   unfold impl_Work.j0
   have mo0 := @impl_HartOk.mono
   exact zL
  ·intros
   unfold impl_Work.j1
   have mo0 := @impl_HartOk.mono
   exact zL
  ·intros
   unfold impl_Work.j2
   have mo0 := @impl_HartOk.mono
   exact zL
  ·intros
   unfold impl_Work.j3
   have mo0 := @impl_HartOk.mono
   exact zL
theorem impl_Work.mono : ∀ a0 a1 a2 a3 a4 a5 a6 a7 a8 k, LeO (impl_Work.f k a0 a1 a2 a3 a4 a5 a6 a7 a8) (impl_Work.f (k + 1) a0 a1 a2 a3 a4 a5 a6 a7 a8) := by
 intro a0 a1 a2 a3 a4 a5 a6 a7 a8 k
 obtain ⟨ih0, ih1, ih2, ih3⟩ := impl_Work.mono_l k
 unfold impl_Work.f
 have mo0 := @impl_HartOk.mono
 exact zL
def impl_Work.T7 : Bool × List (List Nat × List Nat) := (true, [([], []), ([0], [0]), ([], []), ([2], [2]), ([1, 3], [1, 3]), ([4], [4]), ([], []), ([6], [6]), ([], []), ([8], [8]), ([7, 9], [7, 9]), ([10], [10]), ([5, 0, 1, 2, 3, 4, 5], [5]), ([11, 12, 0, 1, 2, 3, 4, 5, 6, 7, 8, 9, 10, 11, 12], [11])])
def impl_Work.B7 : List Nat := [0, 1, 0, 4, 15, 31, 0, 64, 0, 256, 960, 1984, 63, 8191]
theorem impl_Work.tab7 : rtab .any (opsOf Try.f89 7) = impl_Work.T7 := by kernel_rfl
theorem impl_Work.bits7 : waitsOk impl_Work.T7.2 impl_Work.B7 = true := by kernel_rfl
def impl_Work.T14 : Bool × List (List Nat × List Nat) := (true, [([], []), ([0], [0]), ([], []), ([2], [2]), ([], []), ([], []), ([4, 5], [4, 5]), ([6], [6]), ([1, 3, 0, 1, 2, 3, 4, 5, 6, 7], [1, 3]), ([8, 7, 7, 0, 1, 2, 3, 4, 5, 6, 7], [7, 8])])
def impl_Work.B14 : List Nat := [0, 1, 0, 4, 0, 0, 48, 112, 255, 511]
theorem impl_Work.tab14 : rtab .any (opsOf Try.f89 14) = impl_Work.T14 := by kernel_rfl
theorem impl_Work.bits14 : waitsOk impl_Work.T14.2 impl_Work.B14 = true := by kernel_rfl
def impl_Work.T16 : Bool × List (List Nat × List Nat) := (true, [([], []), ([0], [0]), ([], []), ([2], [2]), ([], []), ([], []), ([4, 5], [4, 5]), ([6], [6]), ([1, 3, 0, 1, 2, 3, 4, 5, 6, 7], [1, 3]), ([8, 7, 7, 0, 1, 2, 3, 4, 5, 6, 7], [7, 8])])
def impl_Work.B16 : List Nat := [0, 1, 0, 4, 0, 0, 48, 112, 255, 511]
theorem impl_Work.tab16 : rtab .any (opsOf Try.f89 16) = impl_Work.T16 := by kernel_rfl
theorem impl_Work.bits16 : waitsOk impl_Work.T16.2 impl_Work.B16 = true := by kernel_rfl
def impl_Work.T18 : Bool × List (List Nat × List Nat) := (true, [([], []), ([0], [0]), ([], []), ([2], [2]), ([], []), ([], []), ([5], [5]), ([4, 6], [4, 6]), ([7], [7]), ([1, 3, 0, 1, 2, 3, 4, 5, 6, 7, 8], [1, 3]), ([9, 8, 8, 0, 1, 2, 3, 4, 5, 6, 7, 8], [8, 9])])
def impl_Work.B18 : List Nat := [0, 1, 0, 4, 0, 0, 32, 112, 240, 511, 1023]
theorem impl_Work.tab18 : rtab .any (opsOf Try.f89 18) = impl_Work.T18 := by kernel_rfl
theorem impl_Work.bits18 : waitsOk impl_Work.T18.2 impl_Work.B18 = true := by kernel_rfl
theorem impl_Work.calls (k : Nat) (A0_0 : Option Addr) (c0_0 : Nat) (l0_0 : List Int) (a0_1 : Int) (a0_2 : Int) (a1_0 : Int) (a1_1 : Int) (a1_2 : Int) (a1_3 : Int) (a1_4 : Int) (a2 : Int) (r1 : List Int) (r2 : Int) (r3 : Int) (r4 : Int) (w : World) (hr0_0 : Kd.C (Kd.int .i64) w A0_0 l0_0.length l0_0) (hc0_0 : l0_0.length ≤ c0_0) (h : impl_Work.f k l0_0 a0_1 a0_2 a1_0 a1_1 a1_2 a1_3 a1_4 a2 = some (r1, r2, r3, r4)) :
  Calls Try.prog 89 #[.agg #[.slice A0_0 l0_0.length c0_0, .int .i64 a0_1, .int .i64 a0_2], .agg #[.int .i64 a1_0, .int .i64 a1_1, .int .i64 a1_2, .int .i64 a1_3, .int .i64 a1_4], .int .i64 a2] w fun e w' => ∃ v0_ : Value, e = .returned (.tuple #[.agg #[v0_, .int .i64 r2, .int .i64 r3], .int .i64 r4]) ∧ Kd.R (Kd.int .i64) 3 w' w.heap.size (fun _ => True) v0_ r1 ∧ Below w.heap.size w w' := by
 have hu29 := Try.underlying29
 have hu59 := Try.underlying59
 have HR0_0 := zM hr0_0
 have HC0_0 := zM hc0_0
 clear hr0_0 hc0_0
 have HB := zM (Below.refl w.heap.size w)
 unfold impl_Work.f at h
 have H := h
 clear h
 replace H := zO H
 obtain ⟨⟨t274, t277, t278⟩, A4, H⟩ := H
 try dsimp only at H
 have HC5 := zM H
 clear H
 go_enter Try.func89, Try.ntmps89
 go_upto_region 2 with (first | ((with_reducible refine zBx 3 29 #[.slice A0_0 l0_0.length c0_0, .int .i64 a0_1, .int .i64 a0_2] ?_); intro gb271 hg w6 hbox hb; have BK271 := zM hbox; have GW271 := zM (zW hg (below_size zB0)); have GE271 := zM (zW hg (below_size zB0)); replace HB := zM (below_step zB0 hb); clear hb hbox hg) | ((with_reducible refine zBx 4 59 #[.int .i64 a1_0, .int .i64 a1_1, .int .i64 a1_2, .int .i64 a1_3, .int .i64 a1_4] ?_); intro gb272 hg w7 hbox hb; have BK272 := zM hbox; have GW272 := zM (zW hg (below_size zB0)); have GE272 := zM (zW hg (below_size zB0)); replace HB := zM (below_step zB0 hb); have NB271_272 := zM ((zn BK271.1 hg : gb271 ≠ gb272)); have NB272_271 := zM ((zm BK271.1 hg : gb272 ≠ gb271)); replace BK271 := zM (zb BK271.1 hb); clear hb hbox hg) | ((with_reducible refine zBx 6 29 #[.slice none 0 0, .int .i64 0, .int .i64 0] ?_); intro gb273 hg w8 hbox hb; have BK273 := zM hbox; have GW273 := zM (zW hg (below_size zB0)); have GE273 := zM (zW hg (below_size zB0)); replace HB := zM (below_step zB0 hb); have NB271_273 := zM ((zn BK271.1 hg : gb271 ≠ gb273)); have NB273_271 := zM ((zm BK271.1 hg : gb273 ≠ gb271)); replace BK271 := zM (zb BK271.1 hb); have NB272_273 := zM ((zn BK272.1 hg : gb272 ≠ gb273)); have NB273_272 := zM ((zm BK272.1 hg : gb273 ≠ gb272)); replace BK272 := zM (zb BK272.1 hb); clear hb hbox hg; have hnb9 := NB271_272.1; have hnc9 := NB272_271.1; have hnb10 := NB271_273.1; have hnc10 := NB273_271.1; have hcz11 := zc_3 (w := w8) BK271.1) | ((with_reducible refine zG Try.func86 13 #[.agg #[.slice A0_0 l0_0.length c0_0, .int .i64 a0_1, .int .i64 a0_2]] ?_); (with_reducible refine (impl_copyHart.calls _ _ l0_0 a0_1 a0_2 t274 t277 t278 _ ?side1 ?side2 A4.1).mono ?_); (case side1 => exact zC (Kd.C_below HR0_0.1 HB.1)); (case side2 => exact HC0_0.1); rintro e w12 ⟨v275, rfl, ho0, hb⟩; refine ⟨_, rfl, ?_⟩; have HO276 := zM (Kd.R_lower ho0 (below_size zB0)); replace BK271 := zM (zb BK271.1 hb); replace BK272 := zM (zb BK272.1 hb); replace BK273 := zM (zb BK273.1 hb); replace HB := zM (below_step zB0 hb); clear hb ho0; obtain ⟨Ao13, co13, eo13⟩ := Kd.R_slice HO276.1; subst eo13; have hcz14 := zc_3 (w := w12) BK271.1))
 (try simp only [Act.put, List.setIfInBounds_toArray, List.set_cons_zero, List.set_cons_succ])
 go_cut [26] (fun v26 wc => ∃ (kq : Nat) (x26_4 : Bool), v26 = .bool x26_4 ∧ Aside0 (impl_Work.j0 kq a2 x26_4 t274 t277 t278 a1_0 a1_1 a1_2 a1_3 a1_4 = some (r1, r2, r3, r4)) ∧ Aside0 (kq ≤ k) ∧ Aside0 (Kd.R (Kd.int .i64) 3 wc w.heap.size (fun _ => True) (.slice Ao13 t274.length co13) t274) ∧ Aside0 (wc.heap[gb271]? = some (.cells #[(.slice Ao13 t274.length co13), .int .i64 t277, .int .i64 t278] 29 (0, 0))) ∧ Aside0 (wc.heap[gb272]? = some (.cells #[.int .i64 a1_0, .int .i64 a1_1, .int .i64 a1_2, .int .i64 a1_3, .int .i64 a1_4] 59 (0, 0))) ∧ Aside0 (wc.heap[gb273]? = some (.cells #[(.slice none 0 0), .int .i64 0, .int .i64 0] 29 (0, 0))) ∧ Aside0 (Below w.heap.size w wc))
 case first =>
  have H := HC5.1
  clear HC5
  replace H := zO H
  obtain ⟨t279, A15, H⟩ := H
  by_cases c16 : t279 = true
  rotate_left
  ·replace c16 := Bool.eq_false_iff.mpr c16
   subst c16
   rw [if_neg zF] at H
   have H' := zM H
   clear H
   have hnb29 := NB271_272.1
   have hnc29 := NB272_271.1
   have hnb30 := NB271_273.1
   have hnc30 := NB273_271.1
   have hcz31 := zc_3 (w := w12) BK271.1
   go_wp2_with (first | ((with_reducible refine zG Try.func58 15 #[.agg #[.slice Ao13 t274.length co13, .int .i64 t277, .int .i64 t278]] ?_); (with_reducible refine (impl_HartOk.calls k _ _ t274 t277 t278 false _ ?side1 ?side2 A15.1).mono ?_); (case side1 => refine (Kd.R_reads' (e := 3) (base := w.heap.size) (ok := fun k_ => True) (n := t274.length) (c := co13) ?_).2.2; exact (by refine zrR ?_; exact (Kd.R_mono (zfR (zfR (zfR (Kd.R_types HO276.1 BK271.1 (by decide))))) (fun _ h_ => h_.1)))); (case side2 => exact (Kd.R_reads' HO276.1).2.1); rintro e w32 ⟨rfl, hb⟩; refine ⟨_, rfl, ?_⟩; replace HO276 := zM (Kd.R_below (by refine zrR ?_; exact (Kd.R_mono (zfR (zfR (zfR (Kd.R_types HO276.1 BK271.1 (by decide))))) (fun _ h_ => h_.1))) hb); replace BK271 := zM (blk_below (g := gb271) (o := .cells #[.slice Ao13 t274.length co13, .int .i64 t277, .int .i64 t278] 29 (0, 0)) (by exact zp3 (zK BK271.1)) hb); replace BK272 := zM (zf BK272.1 hb); replace BK273 := zM (zf BK273.1 hb); replace HB := zM (below_step zB0 hb); clear hb))
   go_meet
   case rel => exact ⟨_, (true), zJJ, H', ⟨by first | omega | exact Nat.le_refl _⟩, ⟨zR HO276.1⟩, ⟨zK BK271.1⟩, ⟨zK BK272.1⟩, ⟨zK BK273.1⟩, ⟨zB0⟩⟩
  subst c16
  rw [if_pos rfl] at H
  by_cases c17 : t278 = 0
  rotate_left
  ·rw [if_neg c17] at H
   have c17b0 : (t278 == 0) = false := beq_eq_false_iff_ne.mpr c17
   have c17b1 : (t278 != 0) = true := bne_iff_ne.mpr c17
   (first | rw [c17b0] | (simp only [i64_w, i32_w]; rw [c17b0]) | skip)
   have H' := zM H
   clear H
   have hnb24 := NB271_272.1
   have hnc24 := NB272_271.1
   have hnb25 := NB271_273.1
   have hnc25 := NB273_271.1
   have hcz26 := zc_3 (w := w12) BK271.1
   go_wp2_with (first | ((with_reducible refine zG Try.func58 15 #[.agg #[.slice Ao13 t274.length co13, .int .i64 t277, .int .i64 t278]] ?_); (with_reducible refine (impl_HartOk.calls k _ _ t274 t277 t278 true _ ?side1 ?side2 A15.1).mono ?_); (case side1 => refine (Kd.R_reads' (e := 3) (base := w.heap.size) (ok := fun k_ => True) (n := t274.length) (c := co13) ?_).2.2; exact (by refine zrR ?_; exact (Kd.R_mono (zfR (zfR (zfR (Kd.R_types HO276.1 BK271.1 (by decide))))) (fun _ h_ => h_.1)))); (case side2 => exact (Kd.R_reads' HO276.1).2.1); rintro e w27 ⟨rfl, hb⟩; refine ⟨_, rfl, ?_⟩; replace HO276 := zM (Kd.R_below (by refine zrR ?_; exact (Kd.R_mono (zfR (zfR (zfR (Kd.R_types HO276.1 BK271.1 (by decide))))) (fun _ h_ => h_.1))) hb); replace BK271 := zM (blk_below (g := gb271) (o := .cells #[.slice Ao13 t274.length co13, .int .i64 t277, .int .i64 t278] 29 (0, 0)) (by exact zp3 (zK BK271.1)) hb); replace BK272 := zM (zf BK272.1 hb); replace BK273 := zM (zf BK273.1 hb); replace HB := zM (below_step zB0 hb); clear hb; have hcz28 := zc_3 (w := w27) BK271.1))
   go_meet
   case rel => exact ⟨_, (true), zJJ, H', ⟨by first | omega | exact Nat.le_refl _⟩, ⟨zR HO276.1⟩, ⟨zK BK271.1⟩, ⟨zK BK272.1⟩, ⟨zK BK273.1⟩, ⟨zB0⟩⟩
  rw [if_pos c17] at H
  have c17b0 : (t278 == 0) = true := beq_iff_eq.mpr c17
  have c17b1 : (t278 != 0) = false := bne_eq_false_iff_eq.mpr c17
  clear c17
  (first | rw [c17b0] | (simp only [i64_w, i32_w]; rw [c17b0]) | skip)
  replace H := zO H
  obtain ⟨t280, A18, H⟩ := H
  have H' := zM H
  clear H
  have hnb19 := NB271_272.1
  have hnc19 := NB272_271.1
  have hnb20 := NB271_273.1
  have hnc20 := NB273_271.1
  have hcz21 := zc_3 (w := w12) BK271.1
  go_wp2_with (first | ((with_reducible refine zG Try.func58 15 #[.agg #[.slice Ao13 t274.length co13, .int .i64 t277, .int .i64 t278]] ?_); (with_reducible refine (impl_HartOk.calls k _ _ t274 t277 t278 true _ ?side1 ?side2 A15.1).mono ?_); (case side1 => refine (Kd.R_reads' (e := 3) (base := w.heap.size) (ok := fun k_ => True) (n := t274.length) (c := co13) ?_).2.2; exact (by refine zrR ?_; exact (Kd.R_mono (zfR (zfR (zfR (Kd.R_types HO276.1 BK271.1 (by decide))))) (fun _ h_ => h_.1)))); (case side2 => exact (Kd.R_reads' HO276.1).2.1); rintro e w22 ⟨rfl, hb⟩; refine ⟨_, rfl, ?_⟩; replace HO276 := zM (Kd.R_below (by refine zrR ?_; exact (Kd.R_mono (zfR (zfR (zfR (Kd.R_types HO276.1 BK271.1 (by decide))))) (fun _ h_ => h_.1))) hb); replace BK271 := zM (blk_below (g := gb271) (o := .cells #[.slice Ao13 t274.length co13, .int .i64 t277, .int .i64 t278] 29 (0, 0)) (by exact zp3 (zK BK271.1)) hb); replace BK272 := zM (zf BK272.1 hb); replace BK273 := zM (zf BK273.1 hb); replace HB := zM (below_step zB0 hb); clear hb; have hcz23 := zc_3 (w := w22) BK271.1) | (go_at_call 72; (with_reducible refine (impl_isWord.calls a2 t280 _ A18.1).mono ?_); rintro e w' ⟨rfl, ⟨nd, rfl⟩⟩))
  go_meet
  case rel => exact ⟨_, (!t280), zJJ, H', ⟨by first | omega | exact Nat.le_refl _⟩, ⟨zR HO276.1⟩, ⟨zK BK271.1⟩, ⟨zK BK272.1⟩, ⟨zK BK273.1⟩, ⟨zB0⟩⟩
 case rest =>
  clear HC5
  obtain ⟨kq, x26_4, rfl, HA, HJ4, HO_272000, BK271, BK272, BK273, HB⟩ := hcut
  cases kq with
  | zero => exact absurd HA.1 (by simp [impl_Work.j0])
  | succ kj4 =>
   have H := HA.1
   clear HA
   simp only [impl_Work.j0] at H
   by_cases c33 : x26_4 = true
   ·subst c33
    rw [if_pos rfl] at H
    simp only [Option.some.injEq, Prod.mk.injEq] at H
    obtain ⟨rfl, rfl, rfl, rfl⟩ := H
    have hnb34 := NB271_272.1
    have hnc34 := NB272_271.1
    have hnb35 := NB271_273.1
    have hnc35 := NB273_271.1
    have hcz36 := zc_3 (w := wc) BK271.1
    have hnb37 := NB273_272.1
    have hnc37 := NB272_273.1
    have hcz38 := zc_3 (w := wc) BK273.1
    go_wp2
    refine bodyPost_ret (results_ct rfl _ _ gb273 29 #[.slice Ao13 t274.length co13, .int .i64 t277, .int .i64 t278] (0, 0) _ rfl (by exact zp3 (zK BK273.1)) Try.underlying29 rfl (by kernel_rfl)) rfl ?_
    exact ⟨_, zE, by refine zrR ?_; exact Kd.R_mono (zfR (zfR (zfR (Kd.R_types HO_272000.1 BK273.1 (by decide))))) (fun _ hk => trivial), zB0⟩
   replace c33 := Bool.eq_false_iff.mpr c33
   subst c33
   rw [if_neg zF] at H
   have HC39 := zM H
   clear H
   go_upto_region 4 with (fail)
   go_cut [30] (fun v30 wc => ∃ (kq : Nat) (x30_38 : Bool), v30 = .bool x30_38 ∧ Aside0 (impl_Work.j1 kq a2 x30_38 t274 t277 t278 a1_0 a1_1 a1_2 a1_3 a1_4 = some (r1, r2, r3, r4)) ∧ Aside0 (kq ≤ kj4) ∧ Aside0 (Kd.R (Kd.int .i64) 3 wc w.heap.size (fun _ => True) (.slice Ao13 t274.length co13) t274) ∧ Aside0 (wc.heap[gb271]? = some (.cells #[(.slice Ao13 t274.length co13), .int .i64 t277, .int .i64 t278] 29 (0, 0))) ∧ Aside0 (wc.heap[gb272]? = some (.cells #[.int .i64 a1_0, .int .i64 a1_1, .int .i64 a1_2, .int .i64 a1_3, .int .i64 a1_4] 59 (0, 0))) ∧ Aside0 (wc.heap[gb273]? = some (.cells #[(.slice none 0 0), .int .i64 0, .int .i64 0] 29 (0, 0))) ∧ Aside0 (Below w.heap.size w wc))
   case first =>
    have H := HC39.1
    clear HC39
    replace H := zO H
    obtain ⟨t281, A40, H⟩ := H
    have H' := zM H
    clear H
    have hnb41 := NB272_271.1
    have hnc41 := NB271_272.1
    have hnb42 := NB272_273.1
    have hnc42 := NB273_272.1
    have hcz43 := zc_5 (w := wc) BK272.1
    go_wp2_with (first | ((with_reducible refine zG Try.func91 29 #[.agg #[.int .i64 a1_0, .int .i64 a1_1, .int .i64 a1_2, .int .i64 a1_3, .int .i64 a1_4]] ?_); (with_reducible refine (impl_InsOk.calls a1_0 a1_1 a1_2 a1_3 a1_4 t281 _ A40.1).mono ?_); rintro e w44 ⟨rfl, hb⟩; refine ⟨_, rfl, ?_⟩; replace HO_272000 := zM (Kd.R_below (zR HO_272000.1) hb); replace BK271 := zM (zb BK271.1 hb); replace BK272 := zM (zb BK272.1 hb); replace BK273 := zM (zb BK273.1 hb); replace HB := zM (below_step zB0 hb); clear hb))
    go_meet
    case rel => exact ⟨_, (!t281), zJJ, H', ⟨by have := HJ4.1; first | omega | exact Nat.le_refl _⟩, ⟨zR HO_272000.1⟩, ⟨zK BK271.1⟩, ⟨zK BK272.1⟩, ⟨zK BK273.1⟩, ⟨zB0⟩⟩
   case rest =>
    clear HC39
    obtain ⟨kq, x30_38, rfl, HA, HJ38, HO_272000, BK271, BK272, BK273, HB⟩ := hcut
    cases kq with
    | zero => exact absurd HA.1 (by simp [impl_Work.j1])
    | succ kj38 =>
     have H := HA.1
     clear HA
     simp only [impl_Work.j1] at H
     by_cases c45 : x30_38 = true
     ·subst c45
      rw [if_pos rfl] at H
      simp only [Option.some.injEq, Prod.mk.injEq] at H
      obtain ⟨rfl, rfl, rfl, rfl⟩ := H
      have hnb46 := NB271_272.1
      have hnc46 := NB272_271.1
      have hnb47 := NB271_273.1
      have hnc47 := NB273_271.1
      have hcz48 := zc_3 (w := wc) BK271.1
      have hnb49 := NB273_272.1
      have hnc49 := NB272_273.1
      have hcz50 := zc_3 (w := wc) BK273.1
      go_wp2
      refine bodyPost_ret (results_ct rfl _ _ gb273 29 #[.slice Ao13 t274.length co13, .int .i64 t277, .int .i64 2] (0, 0) _ rfl zPq Try.underlying29 rfl (by kernel_rfl)) rfl ?_
      exact ⟨_, zE, by refine zrR ?_; exact Kd.R_mono (zfR (zfR (zfR (zgR (Kd.R_types (Kd.R_types HO_272000.1 BK271.1 (by decide)) BK273.1 (by decide)))))) (fun _ hk => trivial), zB0⟩
     replace c45 := Bool.eq_false_iff.mpr c45
     subst c45
     rw [if_neg zF] at H
     replace H := zIt H
     obtain ⟨c51b0, H⟩ := H
     replace H := zIt H
     obtain ⟨c52b0, H⟩ := H
     replace H := zIt H
     obtain ⟨c53b0, H⟩ := H
     replace H := zIt H
     obtain ⟨c54b0, H⟩ := H
     replace H := zO H
     obtain ⟨t284, A55, H⟩ := H
     have HC56 := zM H
     clear H
     try go_wp2
     replace HO_272000 := zM (Kd.R_drew HO_272000.1)
     replace BK271 := zM (blk_drew BK271.1)
     replace BK272 := zM (blk_drew BK272.1)
     replace BK273 := zM (blk_drew BK273.1)
     replace HB := zM (below_drew1 HB.1)
     obtain ⟨p282, q282, ad282, e282, hx282_0⟩ := zRd (Kd.at_int (Kd.R_reads' HO_272000.1).2.2 a1_2)
     cases e282
     obtain ⟨p283, q283, ad283, e283, hx283_0⟩ := zRd (Kd.at_int (Kd.R_reads' HO_272000.1).2.2 a1_3)
     obtain rfl : ad282 = ad283 := (by injection e283)
     refine start_ (n := 14) (S := fun w' => w'.cell? ⟨gb271, 0, none⟩ = some (.slice (some ad282) t274.length co13) ∧ w'.cell? ⟨gb271, 1, none⟩ = some (.int .i64 t277) ∧ w'.cell? ⟨gb271, 2, none⟩ = some (.int .i64 t278) ∧ w'.cell? ⟨gb272, 0, none⟩ = some (.int .i64 a1_0) ∧ w'.cell? ⟨gb272, 1, none⟩ = some (.int .i64 a1_1) ∧ w'.cell? ⟨gb272, 2, none⟩ = some (.int .i64 a1_2) ∧ w'.cell? ⟨gb272, 3, none⟩ = some (.int .i64 a1_3) ∧ w'.cell? ⟨gb272, 4, none⟩ = some (.int .i64 a1_4) ∧ w'.cell? (ad282.add (a1_2).toNat) = some (.int .i64 (rd t274 a1_2)) ∧ w'.cell? (ad282.add (a1_3).toNat) = some (.int .i64 (rd t274 a1_3))) (ds := []) #[false, false, false, false, false, false, false, false, false, false, false, false, false, false] (by kernel_rfl) rfl rfl ⟨(blk_cell BK271.1 0).trans rfl, (blk_cell BK271.1 1).trans rfl, (blk_cell BK271.1 2).trans rfl, (blk_cell BK272.1 0).trans rfl, (blk_cell BK272.1 1).trans rfl, (blk_cell BK272.1 2).trans rfl, (blk_cell BK272.1 3).trans rfl, (blk_cell BK272.1 4).trans rfl, hx282_0, hx283_0⟩ (fun hHeld => ?_); refine with_tabW impl_Work.tab7 impl_Work.bits7 (fun HT_ HW_ => ?_)
     generalize wc.drew = w57 at HO_272000 BK271 BK272 BK273 HB hx282_0 hx283_0 hHeld ⊢
     refine zPu 0 ?_
     refine zPu 2 ?_
     refine zPu 6 ?_
     refine zPu 8 ?_
     refine zTk10 1 hHeld ?_
     refine zTk10 3 hHeld ?_
     refine zPu 4 ?_
     refine zTk10 5 hHeld ?_
     refine zPu 12 ?_
     refine zTk10 7 hHeld ?_
     refine zTk10 9 hHeld ?_
     refine zPu 10 ?_
     refine zTk10 11 hHeld ?_
     refine zPu 13 ?_
     refine done_ (done_of HT_.1 (by kernel_rfl)) ?_
     have hnb58 := NB271_272.1
     have hnc58 := NB272_271.1
     have hnb59 := NB271_273.1
     have hnc59 := NB273_271.1
     have hcz60 := zc_3 (w := w57) BK271.1
     go_upto_region 10 with (first | ((with_reducible refine zG Try.func114 48 #[.int .i64 (wrap64 (t277 + 1))] ?_); (with_reducible refine (impl_address.calls (wrap64 (t277 + 1)) t284 _ A55.1).mono ?_); rintro e w' ⟨rfl, ⟨nd, rfl⟩⟩; refine ⟨_, rfl, ?_⟩))
     (try simp only [Act.put, List.setIfInBounds_toArray, List.set_cons_zero, List.set_cons_succ])
     go_cut [50] (fun v50 wc => ∃ (kq : Nat) (x50_55 : Int), v50 = .int .i64 x50_55 ∧ Aside0 (impl_Work.j2 kq a2 (rd t274 a1_2) (rd t274 a1_3) (-1) t284 x50_55 t274 t277 t278 a1_0 a1_1 a1_2 a1_3 a1_4 = some (r1, r2, r3, r4)) ∧ Aside0 (kq ≤ kj38) ∧ Aside0 (Kd.R (Kd.int .i64) 3 wc w.heap.size (fun _ => True) (.slice (some ad282) t274.length co13) t274) ∧ Aside0 (wc.heap[gb271]? = some (.cells #[(.slice (some ad282) t274.length co13), .int .i64 t277, .int .i64 t278] 29 (0, 0))) ∧ Aside0 (wc.heap[gb272]? = some (.cells #[.int .i64 a1_0, .int .i64 a1_1, .int .i64 a1_2, .int .i64 a1_3, .int .i64 a1_4] 59 (0, 0))) ∧ Aside0 (wc.heap[gb273]? = some (.cells #[(.slice none 0 0), .int .i64 0, .int .i64 0] 29 (0, 0))) ∧ Aside0 (Below w.heap.size w wc))
     case first =>
      have H := HC56.1
      clear HC56
      have H' := zM H
      clear H
      have hnb61 := NB272_271.1
      have hnc61 := NB271_272.1
      have hnb62 := NB272_273.1
      have hnc62 := NB273_272.1
      have hcz63 := zc_5 (w := w57) BK272.1
      go_wp2
      go_meet
      case rel => exact ⟨_, (a1_0), zJJ, H', ⟨by have := HJ4.1; have := HJ38.1; first | omega | exact Nat.le_refl _⟩, ⟨zR HO_272000.1⟩, ⟨zK BK271.1⟩, ⟨zK BK272.1⟩, ⟨zK BK273.1⟩, ⟨zB0⟩⟩
     case rest =>
      clear HC56
      obtain ⟨kq, x50_55, rfl, HA, HJ55, HO_272000, BK271, BK272, BK273, HB⟩ := hcut
      cases kq with
      | zero => exact absurd HA.1 (by simp [impl_Work.j2])
      | succ kj55 =>
       have H := HA.1
       clear HA
       simp only [impl_Work.j2] at H
       have HC64 := zM H
       clear H
       go_upto_block 0 with (fail)
       go_cut [10, 11] (fun v10 v11 wc => ∃ (kq : Nat) (x10_63 : Int) (x11_63 : Int) (x272000_63 : List Int) (x272002_63 : Int) (u272000 : Value), v10 = .int .i64 x10_63 ∧ v11 = .int .i64 x11_63 ∧ Aside0 (impl_Work.j3 kq x10_63 x11_63 x272000_63 t277 x272002_63 = some (r1, r2, r3, r4)) ∧ Aside0 (kq ≤ kj55) ∧ Aside0 (Kd.R (Kd.int .i64) 3 wc w.heap.size (fun _ => True) u272000 x272000_63) ∧ Aside0 (wc.heap[gb271]? = some (.cells #[u272000, .int .i64 t277, .int .i64 x272002_63] 29 (0, 0))) ∧ Aside0 (wc.heap[gb272]? = some (.cells #[.int .i64 a1_0, .int .i64 a1_1, .int .i64 a1_2, .int .i64 a1_3, .int .i64 a1_4] 59 (0, 0))) ∧ Aside0 (wc.heap[gb273]? = some (.cells #[(.slice none 0 0), .int .i64 0, .int .i64 0] 29 (0, 0))) ∧ Aside0 (Below w.heap.size w wc))
       case first =>
        have H := HC64.1
        clear HC64
        by_cases c65 : x50_55 = 1
        ·rw [if_pos c65] at H
         have c65b0 : (x50_55 == 1) = true := beq_iff_eq.mpr c65
         have c65b1 : (x50_55 != 1) = false := bne_eq_false_iff_eq.mpr c65
         clear c65
         (first | rw [c65b0] | (simp only [i64_w, i32_w]; rw [c65b0]) | skip)
         replace H := zIt H
         obtain ⟨c66b0, H⟩ := H
         replace H := zIt H
         obtain ⟨c67b0, H⟩ := H
         generalize hy285 : ((t274.set (a1_1 : Int).toNat a1_4) : List Int) = y285 at H
         have Ny285 := zM hy285.symm
         clear hy285
         have H' := zM H
         clear H
         have hnb69 := NB271_272.1
         have hnc69 := NB272_271.1
         have hnb70 := NB271_273.1
         have hnc70 := NB273_271.1
         have hcz71 := zc_3 (w := wc) BK271.1
         have hnb72 := NB272_273.1
         have hnc72 := NB273_272.1
         have hcz73 := zc_5 (w := wc) BK272.1
         have p68 : 0 ≤ (a1_1 : Int) := zA
         have q68 : (a1_1 : Int) < ((t274.length : Int) : Int) := zA
         obtain ⟨go68, co68, eo68, gb68, gl68, cl68, HG68⟩ := Kd.R_form HO_272000.1 (by omega)
         (first | cases eo68 | (injection eo68 with ea_ en_ ec_; (first | subst ea_ | (injection ea_ with ea_; subst ea_)); subst ec_; clear en_))
         have GB68 := zM gb68
         have GG68 := zM HG68
         clear gb68 gl68 HG68
         (first | simp only [add_plain] at hx282_0 | skip)
         (first | simp only [add_plain] at hx283_0 | skip)
         obtain ⟨hx68_0, hf68_0⟩ := Kd.R_celln 0 HO_272000.1 (a1_1 : Int) p68 q68
         replace p68 := eq_true p68
         replace q68 := eq_true q68
         have HP74 := Kd.R_putg HO_272000.1 (a1_1 : Int) a1_4
         go_wp2_with (first | ((with_reducible refine gate_store (t := 3) (p := 59) rfl ?_); refine store_event (t := 3) (p := 59) (v := ?vo_w75) (w1 := (wc.setCell ⟨go68, (a1_1 : Int).toNat, none⟩ (.int .i64 a1_4))) ?hg ?ho ?hn ?hr ?_; (case ho => rfl); (case hg => rfl); (case hn => rfl); (case hr => exact zHH); intro w75 hw; have hg : wc.grownBy w75 (some go68) := (by rw [hw]; exact HP74.2); have hp_ : Kd.R (Kd.int .i64) 3 w75 w.heap.size (fun _ => True) (.slice (some ⟨go68, 0, none⟩) t274.length co13) y285 := (by rw [hw, Ny285.1]; exact HP74.1); clear HP74; replace BK271 := zM (zg BK271.1 hg (Kd.R_ne HO_272000.1 BK271.1 (by decide))); replace BK272 := zM (zg BK272.1 hg (Kd.R_ne HO_272000.1 BK272.1 (by decide))); replace BK273 := zM (zg BK273.1 hg (Kd.R_ne HO_272000.1 BK273.1 (by decide))); replace HO_272000 := zM hp_; replace HB := zM ((by rw [hw]; exact below_set (HB.1) GB68.1 : Below w.heap.size w w75)); clear hg hw hp_))
         go_meet
         case rel => exact ⟨_, ((-1)), (t284), (y285), (t278), (.slice (some ⟨go68, 0, none⟩) t274.length co13), zJJ, zJJ, H', ⟨by have := HJ4.1; have := HJ38.1; have := HJ55.1; first | omega | exact Nat.le_refl _⟩, ⟨zR HO_272000.1⟩, ⟨zK BK271.1⟩, ⟨zK BK272.1⟩, ⟨zK BK273.1⟩, ⟨zB0⟩⟩
        rw [if_neg c65] at H
        have c65b0 : (x50_55 == 1) = false := beq_eq_false_iff_ne.mpr c65
        have c65b1 : (x50_55 != 1) = true := bne_iff_ne.mpr c65
        (first | rw [c65b0] | (simp only [i64_w, i32_w]; rw [c65b0]) | skip)
        by_cases c76 : x50_55 = 2
        ·rw [if_pos c76] at H
         have c76b0 : (x50_55 == 2) = true := beq_iff_eq.mpr c76
         have c76b1 : (x50_55 != 2) = false := bne_eq_false_iff_eq.mpr c76
         clear c76
         replace H := zO H
         obtain ⟨t286, A77, H⟩ := H
         replace H := zIt H
         obtain ⟨c78b0, H⟩ := H
         replace H := zIt H
         obtain ⟨c79b0, H⟩ := H
         generalize hy287 : ((t274.set (a1_1 : Int).toNat t286) : List Int) = y287 at H
         have Ny287 := zM hy287.symm
         clear hy287
         have H' := zM H
         clear H
         try go_wp2
         replace HO_272000 := zM (Kd.R_drew HO_272000.1)
         replace BK271 := zM (blk_drew BK271.1)
         replace BK272 := zM (blk_drew BK272.1)
         replace BK273 := zM (blk_drew BK273.1)
         replace HB := zM (below_drew1 HB.1)
         refine start_ (n := 10) (S := fun w' => w'.cell? ⟨gb271, 0, none⟩ = some (.slice (some ad282) t274.length co13) ∧ w'.cell? ⟨gb271, 1, none⟩ = some (.int .i64 t277) ∧ w'.cell? ⟨gb271, 2, none⟩ = some (.int .i64 t278) ∧ w'.cell? ⟨gb272, 0, none⟩ = some (.int .i64 a1_0) ∧ w'.cell? ⟨gb272, 1, none⟩ = some (.int .i64 a1_1) ∧ w'.cell? ⟨gb272, 2, none⟩ = some (.int .i64 a1_2) ∧ w'.cell? ⟨gb272, 3, none⟩ = some (.int .i64 a1_3) ∧ w'.cell? ⟨gb272, 4, none⟩ = some (.int .i64 a1_4)) (ds := [9]) zq9_0 (by kernel_rfl) rfl rfl ⟨(blk_cell BK271.1 0).trans rfl, (blk_cell BK271.1 1).trans rfl, (blk_cell BK271.1 2).trans rfl, (blk_cell BK272.1 0).trans rfl, (blk_cell BK272.1 1).trans rfl, (blk_cell BK272.1 2).trans rfl, (blk_cell BK272.1 3).trans rfl, (blk_cell BK272.1 4).trans rfl⟩ (fun hHeld => ?_); refine with_tabW impl_Work.tab14 impl_Work.bits14 (fun HT_ HW_ => ?_)
         generalize wc.drew = w81 at HO_272000 BK271 BK272 BK273 HB hHeld ⊢
         refine zPu 0 ?_
         refine zPu 2 ?_
         refine zPu 4 ?_
         refine zPu 5 ?_
         refine zPu 6 ?_
         refine zTk8 1 hHeld ?_
         refine zTk8 3 hHeld ?_
         refine zOn 7 (some 69) fun K hK => ?_
         refine zGs Try.func115 #[.int .i64 (wrap64 ((rd t274 a1_2) + (rd t274 a1_3)))] ?_
         with_reducible refine (impl_wrapped.calls (wrap64 ((rd t274 a1_2) + (rd t274 a1_3))) t286 _ A77.1).mono ?_
         rintro e w' ⟨rfl, ⟨nd, rfl⟩⟩
         refine ⟨_, rfl, ?_⟩
         (try (rw [drewN_self w81]; generalize hq_ : World.drewN w81 _ = w81; have n0_ : Aside0 (Kd.R (Kd.int .i64) 3 w81 w.heap.size (fun _ => True) (.slice (some ad282) t274.length co13) t274) := ⟨by rw [← hq_]; exact (zR HO_272000.1)⟩; have n1_ : Aside0 (w81.heap[gb271]? = some (.cells #[.slice (some ad282) t274.length co13, .int .i64 t277, .int .i64 t278] 29 (0, 0))) := ⟨by rw [← hq_]; exact (zK BK271.1)⟩; have n2_ : Aside0 (w81.heap[gb272]? = some (.cells #[.int .i64 a1_0, .int .i64 a1_1, .int .i64 a1_2, .int .i64 a1_3, .int .i64 a1_4] 59 (0, 0))) := ⟨by rw [← hq_]; exact (zK BK272.1)⟩; have n3_ : Aside0 (w81.heap[gb273]? = some (.cells #[.slice none 0 0, .int .i64 0, .int .i64 0] 29 (0, 0))) := ⟨by rw [← hq_]; exact (zK BK273.1)⟩; have n4_ : Aside0 (Below w.heap.size w w81) := ⟨by rw [← hq_]; exact zB0⟩; clear HO_272000 BK271 BK272 BK273 HB hq_; have HO_272000 := n0_; have BK271 := n1_; have BK272 := n2_; have BK273 := n3_; have HB := n4_; clear n0_ n1_ n2_ n3_ n4_))
         have p80 : 0 ≤ (a1_1 : Int) := zA
         have q80 : (a1_1 : Int) < ((t274.length : Int) : Int) := zA
         obtain ⟨go80, co80, eo80, gb80, gl80, cl80, HG80⟩ := Kd.R_form HO_272000.1 (by omega)
         (first | cases eo80 | (injection eo80 with ea_ en_ ec_; (first | subst ea_ | (injection ea_ with ea_; subst ea_)); subst ec_; clear en_))
         have GB80 := zM gb80
         have GG80 := zM HG80
         clear gb80 gl80 HG80
         obtain ⟨hx80_0, hf80_0⟩ := Kd.R_celln 0 HO_272000.1 (a1_1 : Int) p80 q80
         replace p80 := eq_true p80
         replace q80 := eq_true q80
         have HP82 := Kd.R_putn HO_272000.1 (a1_1 : Int) t286
         rw [← Ny287.1] at HP82
         have HQ82 := zM HP82
         clear HP82
         refine hK.out _ _ zCs fun hHeld => ?_
         clear hK K
         refine zNo ?_
         refine zPu 8 ?_
         refine last_ (i := 9) (N := none) zq9_10 rfl rfl (one_of HT_.1 (by kernel_rfl)) (by decide) (fun K hK => ?_)
         refine skip_ (w1 := ?_) (by rfl) rfl ?_ ?_
         rotate_left
         ·go_simp
          rfl
         refine hK.out _ _ ?_
         clear hK K
         refine done_ (done_of HT_.1 (by kernel_rfl)) ?_
         try go_wp2
         go_meet
         case rel => exact ⟨_, ((-1)), (t284), (y287), (t278), (.slice (some ⟨go80, 0, none⟩) t274.length co13), zJJ, zJJ, H', ⟨by have := HJ4.1; have := HJ38.1; have := HJ55.1; first | omega | exact Nat.le_refl _⟩, ⟨zR HQ82.out⟩, ⟨by refine zP ?_; refine blk_far ?_ (by have h_ := Kd.R_ne HO_272000.1 BK271.1 (by decide); intro e_; exact h_ (by rw [e_]; rfl)) _; refine zP ?_; exact BK271.1⟩, ⟨by refine zP ?_; refine blk_far ?_ (by have h_ := Kd.R_ne HO_272000.1 BK272.1 (by decide); intro e_; exact h_ (by rw [e_]; rfl)) _; refine zP ?_; exact BK272.1⟩, ⟨by refine zP ?_; refine blk_far ?_ (by have h_ := Kd.R_ne HO_272000.1 BK273.1 (by decide); intro e_; exact h_ (by rw [e_]; rfl)) _; refine zP ?_; exact BK273.1⟩, ⟨zB0⟩⟩
        rw [if_neg c76] at H
        have c76b0 : (x50_55 == 2) = false := beq_eq_false_iff_ne.mpr c76
        have c76b1 : (x50_55 != 2) = true := bne_iff_ne.mpr c76
        by_cases c83 : x50_55 = 10
        ·rw [if_pos c83] at H
         have c83b0 : (x50_55 == 10) = true := beq_iff_eq.mpr c83
         have c83b1 : (x50_55 != 10) = false := bne_eq_false_iff_eq.mpr c83
         clear c83
         replace H := zO H
         obtain ⟨t288, A84, H⟩ := H
         replace H := zIt H
         obtain ⟨c85b0, H⟩ := H
         replace H := zIt H
         obtain ⟨c86b0, H⟩ := H
         generalize hy289 : ((t274.set (a1_1 : Int).toNat t288) : List Int) = y289 at H
         have Ny289 := zM hy289.symm
         clear hy289
         have H' := zM H
         clear H
         try go_wp2
         replace HO_272000 := zM (Kd.R_drew HO_272000.1)
         replace BK271 := zM (blk_drew BK271.1)
         replace BK272 := zM (blk_drew BK272.1)
         replace BK273 := zM (blk_drew BK273.1)
         replace HB := zM (below_drew1 HB.1)
         refine start_ (n := 10) (S := fun w' => w'.cell? ⟨gb271, 0, none⟩ = some (.slice (some ad282) t274.length co13) ∧ w'.cell? ⟨gb271, 1, none⟩ = some (.int .i64 t277) ∧ w'.cell? ⟨gb271, 2, none⟩ = some (.int .i64 t278) ∧ w'.cell? ⟨gb272, 0, none⟩ = some (.int .i64 a1_0) ∧ w'.cell? ⟨gb272, 1, none⟩ = some (.int .i64 a1_1) ∧ w'.cell? ⟨gb272, 2, none⟩ = some (.int .i64 a1_2) ∧ w'.cell? ⟨gb272, 3, none⟩ = some (.int .i64 a1_3) ∧ w'.cell? ⟨gb272, 4, none⟩ = some (.int .i64 a1_4)) (ds := [9]) zq9_0 (by kernel_rfl) rfl rfl ⟨(blk_cell BK271.1 0).trans rfl, (blk_cell BK271.1 1).trans rfl, (blk_cell BK271.1 2).trans rfl, (blk_cell BK272.1 0).trans rfl, (blk_cell BK272.1 1).trans rfl, (blk_cell BK272.1 2).trans rfl, (blk_cell BK272.1 3).trans rfl, (blk_cell BK272.1 4).trans rfl⟩ (fun hHeld => ?_); refine with_tabW impl_Work.tab16 impl_Work.bits16 (fun HT_ HW_ => ?_)
         generalize wc.drew = w88 at HO_272000 BK271 BK272 BK273 HB hHeld ⊢
         refine zPu 0 ?_
         refine zPu 2 ?_
         refine zPu 4 ?_
         refine zPu 5 ?_
         refine zPu 6 ?_
         refine zTk8 1 hHeld ?_
         refine zTk8 3 hHeld ?_
         refine zOn 7 (some 80) fun K hK => ?_
         refine zGs Try.func115 #[.int .i64 (wrap64 ((rd t274 a1_2) - (rd t274 a1_3)))] ?_
         with_reducible refine (impl_wrapped.calls (wrap64 ((rd t274 a1_2) - (rd t274 a1_3))) t288 _ A84.1).mono ?_
         rintro e w' ⟨rfl, ⟨nd, rfl⟩⟩
         refine ⟨_, rfl, ?_⟩
         (try (rw [drewN_self w88]; generalize hq_ : World.drewN w88 _ = w88; have n0_ : Aside0 (Kd.R (Kd.int .i64) 3 w88 w.heap.size (fun _ => True) (.slice (some ad282) t274.length co13) t274) := ⟨by rw [← hq_]; exact (zR HO_272000.1)⟩; have n1_ : Aside0 (w88.heap[gb271]? = some (.cells #[.slice (some ad282) t274.length co13, .int .i64 t277, .int .i64 t278] 29 (0, 0))) := ⟨by rw [← hq_]; exact (zK BK271.1)⟩; have n2_ : Aside0 (w88.heap[gb272]? = some (.cells #[.int .i64 a1_0, .int .i64 a1_1, .int .i64 a1_2, .int .i64 a1_3, .int .i64 a1_4] 59 (0, 0))) := ⟨by rw [← hq_]; exact (zK BK272.1)⟩; have n3_ : Aside0 (w88.heap[gb273]? = some (.cells #[.slice none 0 0, .int .i64 0, .int .i64 0] 29 (0, 0))) := ⟨by rw [← hq_]; exact (zK BK273.1)⟩; have n4_ : Aside0 (Below w.heap.size w w88) := ⟨by rw [← hq_]; exact zB0⟩; clear HO_272000 BK271 BK272 BK273 HB hq_; have HO_272000 := n0_; have BK271 := n1_; have BK272 := n2_; have BK273 := n3_; have HB := n4_; clear n0_ n1_ n2_ n3_ n4_))
         have p87 : 0 ≤ (a1_1 : Int) := zA
         have q87 : (a1_1 : Int) < ((t274.length : Int) : Int) := zA
         obtain ⟨go87, co87, eo87, gb87, gl87, cl87, HG87⟩ := Kd.R_form HO_272000.1 (by omega)
         (first | cases eo87 | (injection eo87 with ea_ en_ ec_; (first | subst ea_ | (injection ea_ with ea_; subst ea_)); subst ec_; clear en_))
         have GB87 := zM gb87
         have GG87 := zM HG87
         clear gb87 gl87 HG87
         obtain ⟨hx87_0, hf87_0⟩ := Kd.R_celln 0 HO_272000.1 (a1_1 : Int) p87 q87
         replace p87 := eq_true p87
         replace q87 := eq_true q87
         have HP89 := Kd.R_putn HO_272000.1 (a1_1 : Int) t288
         rw [← Ny289.1] at HP89
         have HQ89 := zM HP89
         clear HP89
         refine hK.out _ _ zCs fun hHeld => ?_
         clear hK K
         refine zNo ?_
         refine zPu 8 ?_
         refine last_ (i := 9) (N := none) zq9_10 rfl rfl (one_of HT_.1 (by kernel_rfl)) (by decide) (fun K hK => ?_)
         refine skip_ (w1 := ?_) (by rfl) rfl ?_ ?_
         rotate_left
         ·go_simp
          rfl
         refine hK.out _ _ ?_
         clear hK K
         refine done_ (done_of HT_.1 (by kernel_rfl)) ?_
         try go_wp2
         go_meet
         case rel => exact ⟨_, ((-1)), (t284), (y289), (t278), (.slice (some ⟨go87, 0, none⟩) t274.length co13), zJJ, zJJ, H', ⟨by have := HJ4.1; have := HJ38.1; have := HJ55.1; first | omega | exact Nat.le_refl _⟩, ⟨zR HQ89.out⟩, ⟨by refine zP ?_; refine blk_far ?_ (by have h_ := Kd.R_ne HO_272000.1 BK271.1 (by decide); intro e_; exact h_ (by rw [e_]; rfl)) _; refine zP ?_; exact BK271.1⟩, ⟨by refine zP ?_; refine blk_far ?_ (by have h_ := Kd.R_ne HO_272000.1 BK272.1 (by decide); intro e_; exact h_ (by rw [e_]; rfl)) _; refine zP ?_; exact BK272.1⟩, ⟨by refine zP ?_; refine blk_far ?_ (by have h_ := Kd.R_ne HO_272000.1 BK273.1 (by decide); intro e_; exact h_ (by rw [e_]; rfl)) _; refine zP ?_; exact BK273.1⟩, ⟨zB0⟩⟩
        rw [if_neg c83] at H
        have c83b0 : (x50_55 == 10) = false := beq_eq_false_iff_ne.mpr c83
        have c83b1 : (x50_55 != 10) = true := bne_iff_ne.mpr c83
        by_cases c90 : x50_55 = 3
        ·rw [if_pos c90] at H
         have c90b0 : (x50_55 == 3) = true := beq_iff_eq.mpr c90
         have c90b1 : (x50_55 != 3) = false := bne_eq_false_iff_eq.mpr c90
         clear c90
         replace H := zO H
         obtain ⟨t290, A91, H⟩ := H
         replace H := zIt H
         obtain ⟨c92b0, H⟩ := H
         replace H := zIt H
         obtain ⟨c93b0, H⟩ := H
         generalize hy291 : ((t274.set (a1_1 : Int).toNat t290) : List Int) = y291 at H
         have Ny291 := zM hy291.symm
         clear hy291
         have H' := zM H
         clear H
         try go_wp2
         replace HO_272000 := zM (Kd.R_drew HO_272000.1)
         replace BK271 := zM (blk_drew BK271.1)
         replace BK272 := zM (blk_drew BK272.1)
         replace BK273 := zM (blk_drew BK273.1)
         replace HB := zM (below_drew1 HB.1)
         refine start_ (n := 11) (S := fun w' => w'.cell? ⟨gb271, 0, none⟩ = some (.slice (some ad282) t274.length co13) ∧ w'.cell? ⟨gb271, 1, none⟩ = some (.int .i64 t277) ∧ w'.cell? ⟨gb271, 2, none⟩ = some (.int .i64 t278) ∧ w'.cell? ⟨gb272, 0, none⟩ = some (.int .i64 a1_0) ∧ w'.cell? ⟨gb272, 1, none⟩ = some (.int .i64 a1_1) ∧ w'.cell? ⟨gb272, 2, none⟩ = some (.int .i64 a1_2) ∧ w'.cell? ⟨gb272, 3, none⟩ = some (.int .i64 a1_3) ∧ w'.cell? ⟨gb272, 4, none⟩ = some (.int .i64 a1_4)) (ds := [10]) #[false, false, false, false, false, false, false, false, false, false, false] (by kernel_rfl) rfl rfl ⟨(blk_cell BK271.1 0).trans rfl, (blk_cell BK271.1 1).trans rfl, (blk_cell BK271.1 2).trans rfl, (blk_cell BK272.1 0).trans rfl, (blk_cell BK272.1 1).trans rfl, (blk_cell BK272.1 2).trans rfl, (blk_cell BK272.1 3).trans rfl, (blk_cell BK272.1 4).trans rfl⟩ (fun hHeld => ?_); refine with_tabW impl_Work.tab18 impl_Work.bits18 (fun HT_ HW_ => ?_)
         generalize wc.drew = w95 at HO_272000 BK271 BK272 BK273 HB hHeld ⊢
         refine zPu 0 ?_
         refine zPu 2 ?_
         refine zPu 4 ?_
         refine zPu 5 ?_
         refine zTk8 1 hHeld ?_
         refine zTk8 3 hHeld ?_
         refine zTk8 6 hHeld ?_
         refine zPu 7 ?_
         refine zOn 8 (some 92) fun K hK => ?_
         refine zGs Try.func115 #[.int .i64 (wrap64 ((rd t274 a1_2) + a1_4))] ?_
         with_reducible refine (impl_wrapped.calls (wrap64 ((rd t274 a1_2) + a1_4)) t290 _ A91.1).mono ?_
         rintro e w' ⟨rfl, ⟨nd, rfl⟩⟩
         refine ⟨_, rfl, ?_⟩
         (try (rw [drewN_self w95]; generalize hq_ : World.drewN w95 _ = w95; have n0_ : Aside0 (Kd.R (Kd.int .i64) 3 w95 w.heap.size (fun _ => True) (.slice (some ad282) t274.length co13) t274) := ⟨by rw [← hq_]; exact (zR HO_272000.1)⟩; have n1_ : Aside0 (w95.heap[gb271]? = some (.cells #[.slice (some ad282) t274.length co13, .int .i64 t277, .int .i64 t278] 29 (0, 0))) := ⟨by rw [← hq_]; exact (zK BK271.1)⟩; have n2_ : Aside0 (w95.heap[gb272]? = some (.cells #[.int .i64 a1_0, .int .i64 a1_1, .int .i64 a1_2, .int .i64 a1_3, .int .i64 a1_4] 59 (0, 0))) := ⟨by rw [← hq_]; exact (zK BK272.1)⟩; have n3_ : Aside0 (w95.heap[gb273]? = some (.cells #[.slice none 0 0, .int .i64 0, .int .i64 0] 29 (0, 0))) := ⟨by rw [← hq_]; exact (zK BK273.1)⟩; have n4_ : Aside0 (Below w.heap.size w w95) := ⟨by rw [← hq_]; exact zB0⟩; clear HO_272000 BK271 BK272 BK273 HB hq_; have HO_272000 := n0_; have BK271 := n1_; have BK272 := n2_; have BK273 := n3_; have HB := n4_; clear n0_ n1_ n2_ n3_ n4_))
         have p94 : 0 ≤ (a1_1 : Int) := zA
         have q94 : (a1_1 : Int) < ((t274.length : Int) : Int) := zA
         obtain ⟨go94, co94, eo94, gb94, gl94, cl94, HG94⟩ := Kd.R_form HO_272000.1 (by omega)
         (first | cases eo94 | (injection eo94 with ea_ en_ ec_; (first | subst ea_ | (injection ea_ with ea_; subst ea_)); subst ec_; clear en_))
         have GB94 := zM gb94
         have GG94 := zM HG94
         clear gb94 gl94 HG94
         obtain ⟨hx94_0, hf94_0⟩ := Kd.R_celln 0 HO_272000.1 (a1_1 : Int) p94 q94
         replace p94 := eq_true p94
         replace q94 := eq_true q94
         have HP96 := Kd.R_putn HO_272000.1 (a1_1 : Int) t290
         rw [← Ny291.1] at HP96
         have HQ96 := zM HP96
         clear HP96
         refine hK.out _ _ zCs fun hHeld => ?_
         clear hK K
         refine zNo ?_
         refine zPu 9 ?_
         refine last_ (i := 10) (N := none) #[true, true, true, true, true, true, true, true, true, true, true] rfl rfl (one_of HT_.1 (by kernel_rfl)) (by decide) (fun K hK => ?_)
         refine skip_ (w1 := ?_) (by rfl) rfl ?_ ?_
         rotate_left
         ·go_simp
          rfl
         refine hK.out _ _ ?_
         clear hK K
         refine done_ (done_of HT_.1 (by kernel_rfl)) ?_
         try go_wp2
         go_meet
         case rel => exact ⟨_, ((-1)), (t284), (y291), (t278), (.slice (some ⟨go94, 0, none⟩) t274.length co13), zJJ, zJJ, H', ⟨by have := HJ4.1; have := HJ38.1; have := HJ55.1; first | omega | exact Nat.le_refl _⟩, ⟨zR HQ96.out⟩, ⟨by refine zP ?_; refine blk_far ?_ (by have h_ := Kd.R_ne HO_272000.1 BK271.1 (by decide); intro e_; exact h_ (by rw [e_]; rfl)) _; refine zP ?_; exact BK271.1⟩, ⟨by refine zP ?_; refine blk_far ?_ (by have h_ := Kd.R_ne HO_272000.1 BK272.1 (by decide); intro e_; exact h_ (by rw [e_]; rfl)) _; refine zP ?_; exact BK272.1⟩, ⟨by refine zP ?_; refine blk_far ?_ (by have h_ := Kd.R_ne HO_272000.1 BK273.1 (by decide); intro e_; exact h_ (by rw [e_]; rfl)) _; refine zP ?_; exact BK273.1⟩, ⟨zB0⟩⟩
        rw [if_neg c90] at H
        have c90b0 : (x50_55 == 3) = false := beq_eq_false_iff_ne.mpr c90
        have c90b1 : (x50_55 != 3) = true := bne_iff_ne.mpr c90
        by_cases c97 : x50_55 = 4
        ·rw [if_pos c97] at H
         have c97b0 : (x50_55 == 4) = true := beq_iff_eq.mpr c97
         have c97b1 : (x50_55 != 4) = false := bne_eq_false_iff_eq.mpr c97
         clear c97
         replace H := zIt H
         obtain ⟨c98b0, H⟩ := H
         replace H := zIt H
         obtain ⟨c99b0, H⟩ := H
         generalize hy292 : ((t274.set (a1_1 : Int).toNat a2) : List Int) = y292 at H
         have Ny292 := zM hy292.symm
         clear hy292
         have H' := zM H
         clear H
         have hnb101 := NB271_272.1
         have hnc101 := NB272_271.1
         have hnb102 := NB271_273.1
         have hnc102 := NB273_271.1
         have hcz103 := zc_3 (w := wc) BK271.1
         have hnb104 := NB272_273.1
         have hnc104 := NB273_272.1
         have hcz105 := zc_5 (w := wc) BK272.1
         have p100 : 0 ≤ (a1_1 : Int) := zA
         have q100 : (a1_1 : Int) < ((t274.length : Int) : Int) := zA
         obtain ⟨go100, co100, eo100, gb100, gl100, cl100, HG100⟩ := Kd.R_form HO_272000.1 (by omega)
         (first | cases eo100 | (injection eo100 with ea_ en_ ec_; (first | subst ea_ | (injection ea_ with ea_; subst ea_)); subst ec_; clear en_))
         have GB100 := zM gb100
         have GG100 := zM HG100
         clear gb100 gl100 HG100
         obtain ⟨hx100_0, hf100_0⟩ := Kd.R_celln 0 HO_272000.1 (a1_1 : Int) p100 q100
         replace p100 := eq_true p100
         replace q100 := eq_true q100
         have HP106 := Kd.R_putg HO_272000.1 (a1_1 : Int) a2
         go_wp2_with (first | ((with_reducible refine gate_store (t := 3) (p := 101) rfl ?_); refine store_event (t := 3) (p := 101) (v := ?vo_w107) (w1 := (wc.setCell ⟨go100, (a1_1 : Int).toNat, none⟩ (.int .i64 a2))) ?hg ?ho ?hn ?hr ?_; (case ho => rfl); (case hg => rfl); (case hn => rfl); (case hr => exact zHH); intro w107 hw; have hg : wc.grownBy w107 (some go100) := (by rw [hw]; exact HP106.2); have hp_ : Kd.R (Kd.int .i64) 3 w107 w.heap.size (fun _ => True) (.slice (some ⟨go100, 0, none⟩) t274.length co13) y292 := (by rw [hw, Ny292.1]; exact HP106.1); clear HP106; replace BK271 := zM (zg BK271.1 hg (Kd.R_ne HO_272000.1 BK271.1 (by decide))); replace BK272 := zM (zg BK272.1 hg (Kd.R_ne HO_272000.1 BK272.1 (by decide))); replace BK273 := zM (zg BK273.1 hg (Kd.R_ne HO_272000.1 BK273.1 (by decide))); replace HO_272000 := zM hp_; replace HB := zM ((by rw [hw]; exact below_set (HB.1) GB100.1 : Below w.heap.size w w107)); clear hg hw hp_))
         go_meet
         case rel => exact ⟨_, ((-1)), (t284), (y292), (t278), (.slice (some ⟨go100, 0, none⟩) t274.length co13), zJJ, zJJ, H', ⟨by have := HJ4.1; have := HJ38.1; have := HJ55.1; first | omega | exact Nat.le_refl _⟩, ⟨zR HO_272000.1⟩, ⟨zK BK271.1⟩, ⟨zK BK272.1⟩, ⟨zK BK273.1⟩, ⟨zB0⟩⟩
        rw [if_neg c97] at H
        have c97b0 : (x50_55 == 4) = false := beq_eq_false_iff_ne.mpr c97
        have c97b1 : (x50_55 != 4) = true := bne_iff_ne.mpr c97
        by_cases c108 : x50_55 = 5
        ·rw [if_pos c108] at H
         have c108b0 : (x50_55 == 5) = true := beq_iff_eq.mpr c108
         have c108b1 : (x50_55 != 5) = false := bne_eq_false_iff_eq.mpr c108
         clear c108
         have H' := zM H
         clear H
         go_wp2
         go_meet
         case rel => exact ⟨_, ((rd t274 a1_3)), (t284), (t274), (t278), (.slice (some ad282) t274.length co13), zJJ, zJJ, H', ⟨by have := HJ4.1; have := HJ38.1; have := HJ55.1; first | omega | exact Nat.le_refl _⟩, ⟨zR HO_272000.1⟩, ⟨zK BK271.1⟩, ⟨zK BK272.1⟩, ⟨zK BK273.1⟩, ⟨zB0⟩⟩
        rw [if_neg c108] at H
        have c108b0 : (x50_55 == 5) = false := beq_eq_false_iff_ne.mpr c108
        have c108b1 : (x50_55 != 5) = true := bne_iff_ne.mpr c108
        by_cases c109 : x50_55 = 6
        ·rw [if_pos c109] at H
         have c109b0 : (x50_55 == 6) = true := beq_iff_eq.mpr c109
         have c109b1 : (x50_55 != 6) = false := bne_eq_false_iff_eq.mpr c109
         clear c109
         replace H := zIt H
         obtain ⟨c110b0, H⟩ := H
         replace H := zIt H
         obtain ⟨c111b0, H⟩ := H
         generalize hy293 : ((t274.set (a1_1 : Int).toNat a2) : List Int) = y293 at H
         have Ny293 := zM hy293.symm
         clear hy293
         replace H := zO H
         obtain ⟨t294, A113, H⟩ := H
         have H' := zM H
         clear H
         have hnb114 := NB271_272.1
         have hnc114 := NB272_271.1
         have hnb115 := NB271_273.1
         have hnc115 := NB273_271.1
         have hcz116 := zc_3 (w := wc) BK271.1
         have hnb117 := NB272_273.1
         have hnc117 := NB273_272.1
         have hcz118 := zc_5 (w := wc) BK272.1
         have p112 : 0 ≤ (a1_1 : Int) := zA
         have q112 : (a1_1 : Int) < ((t274.length : Int) : Int) := zA
         obtain ⟨go112, co112, eo112, gb112, gl112, cl112, HG112⟩ := Kd.R_form HO_272000.1 (by omega)
         (first | cases eo112 | (injection eo112 with ea_ en_ ec_; (first | subst ea_ | (injection ea_ with ea_; subst ea_)); subst ec_; clear en_))
         have GB112 := zM gb112
         have GG112 := zM HG112
         clear gb112 gl112 HG112
         obtain ⟨hx112_0, hf112_0⟩ := Kd.R_celln 0 HO_272000.1 (a1_1 : Int) p112 q112
         replace p112 := eq_true p112
         replace q112 := eq_true q112
         have HP119 := Kd.R_putg HO_272000.1 (a1_1 : Int) a2
         go_wp2_with (first | ((with_reducible refine gate_store (t := 3) (p := 112) rfl ?_); refine store_event (t := 3) (p := 112) (v := ?vo_w120) (w1 := (wc.setCell ⟨go112, (a1_1 : Int).toNat, none⟩ (.int .i64 a2))) ?hg ?ho ?hn ?hr ?_; (case ho => rfl); (case hg => rfl); (case hn => rfl); (case hr => exact zHH); intro w120 hw; have hg : wc.grownBy w120 (some go112) := (by rw [hw]; exact HP119.2); have hp_ : Kd.R (Kd.int .i64) 3 w120 w.heap.size (fun _ => True) (.slice (some ⟨go112, 0, none⟩) t274.length co13) y293 := (by rw [hw, Ny293.1]; exact HP119.1); clear HP119; replace BK271 := zM (zg BK271.1 hg (Kd.R_ne HO_272000.1 BK271.1 (by decide))); replace BK272 := zM (zg BK272.1 hg (Kd.R_ne HO_272000.1 BK272.1 (by decide))); replace BK273 := zM (zg BK273.1 hg (Kd.R_ne HO_272000.1 BK273.1 (by decide))); replace HO_272000 := zM hp_; replace HB := zM ((by rw [hw]; exact below_set (HB.1) GB112.1 : Below w.heap.size w w120)); clear hg hw hp_) | ((with_reducible refine zG Try.func115 116 #[.int .i64 (wrap64 (a2 + (rd t274 a1_3)))] ?_); (with_reducible refine (impl_wrapped.calls (wrap64 (a2 + (rd t274 a1_3))) t294 _ A113.1).mono ?_); rintro e w' ⟨rfl, ⟨nd, rfl⟩⟩; refine ⟨_, rfl, ?_⟩))
         go_meet
         case rel => exact ⟨_, (t294), (t284), (y293), (t278), (.slice (some ⟨go112, 0, none⟩) t274.length co13), zJJ, zJJ, H', ⟨by have := HJ4.1; have := HJ38.1; have := HJ55.1; first | omega | exact Nat.le_refl _⟩, ⟨zR HO_272000.1⟩, ⟨zK BK271.1⟩, ⟨zK BK272.1⟩, ⟨zK BK273.1⟩, ⟨zB0⟩⟩
        rw [if_neg c109] at H
        have c109b0 : (x50_55 == 6) = false := beq_eq_false_iff_ne.mpr c109
        have c109b1 : (x50_55 != 6) = true := bne_iff_ne.mpr c109
        by_cases c121 : x50_55 = 7
        ·rw [if_pos c121] at H
         have c121b0 : (x50_55 == 7) = true := beq_iff_eq.mpr c121
         have c121b1 : (x50_55 != 7) = false := bne_eq_false_iff_eq.mpr c121
         clear c121
         by_cases c122 : (rd t274 a1_2) = 0
         rotate_left
         ·rw [if_neg c122] at H
          have c122b0 : ((rd t274 a1_2) == 0) = false := beq_eq_false_iff_ne.mpr c122
          have c122b1 : ((rd t274 a1_2) != 0) = true := bne_iff_ne.mpr c122
          have H' := zM H
          clear H
          go_wp2
          go_meet
          case rel => exact ⟨_, ((-1)), (t284), (t274), (t278), (.slice (some ad282) t274.length co13), zJJ, zJJ, H', ⟨by have := HJ4.1; have := HJ38.1; have := HJ55.1; first | omega | exact Nat.le_refl _⟩, ⟨zR HO_272000.1⟩, ⟨zK BK271.1⟩, ⟨zK BK272.1⟩, ⟨zK BK273.1⟩, ⟨zB0⟩⟩
         rw [if_pos c122] at H
         have c122b0 : ((rd t274 a1_2) == 0) = true := beq_iff_eq.mpr c122
         have c122b1 : ((rd t274 a1_2) != 0) = false := bne_eq_false_iff_eq.mpr c122
         clear c122
         replace H := zO H
         obtain ⟨t295, A123, H⟩ := H
         have H' := zM H
         clear H
         have hnb124 := NB272_271.1
         have hnc124 := NB271_272.1
         have hnb125 := NB272_273.1
         have hnc125 := NB273_272.1
         have hcz126 := zc_5 (w := wc) BK272.1
         go_wp2_with (first | ((with_reducible refine zG Try.func114 123 #[.int .i64 a1_4] ?_); (with_reducible refine (impl_address.calls a1_4 t295 _ A123.1).mono ?_); rintro e w' ⟨rfl, ⟨nd, rfl⟩⟩; refine ⟨_, rfl, ?_⟩))
         go_meet
         case rel => exact ⟨_, ((-1)), (t295), (t274), (t278), (.slice (some ad282) t274.length co13), zJJ, zJJ, H', ⟨by have := HJ4.1; have := HJ38.1; have := HJ55.1; first | omega | exact Nat.le_refl _⟩, ⟨zR HO_272000.1⟩, ⟨zK BK271.1⟩, ⟨zK BK272.1⟩, ⟨zK BK273.1⟩, ⟨zB0⟩⟩
        rw [if_neg c121] at H
        have c121b0 : (x50_55 == 7) = false := beq_eq_false_iff_ne.mpr c121
        have c121b1 : (x50_55 != 7) = true := bne_iff_ne.mpr c121
        by_cases c127 : x50_55 = 8
        ·rw [if_pos c127] at H
         have c127b0 : (x50_55 == 8) = true := beq_iff_eq.mpr c127
         have c127b1 : (x50_55 != 8) = false := bne_eq_false_iff_eq.mpr c127
         clear c127
         replace H := zO H
         obtain ⟨t296, A128, H⟩ := H
         have H' := zM H
         clear H
         have hnb129 := NB272_271.1
         have hnc129 := NB271_272.1
         have hnb130 := NB272_273.1
         have hnc130 := NB273_272.1
         have hcz131 := zc_5 (w := wc) BK272.1
         go_wp2_with (first | ((with_reducible refine zG Try.func114 128 #[.int .i64 a1_4] ?_); (with_reducible refine (impl_address.calls a1_4 t296 _ A128.1).mono ?_); rintro e w' ⟨rfl, ⟨nd, rfl⟩⟩; refine ⟨_, rfl, ?_⟩))
         go_meet
         case rel => exact ⟨_, ((-1)), (t296), (t274), (t278), (.slice (some ad282) t274.length co13), zJJ, zJJ, H', ⟨by have := HJ4.1; have := HJ38.1; have := HJ55.1; first | omega | exact Nat.le_refl _⟩, ⟨zR HO_272000.1⟩, ⟨zK BK271.1⟩, ⟨zK BK272.1⟩, ⟨zK BK273.1⟩, ⟨zB0⟩⟩
        rw [if_neg c127] at H
        have c127b0 : (x50_55 == 8) = false := beq_eq_false_iff_ne.mpr c127
        have c127b1 : (x50_55 != 8) = true := bne_iff_ne.mpr c127
        by_cases c132 : x50_55 = 9
        rotate_left
        ·rw [if_neg c132] at H
         have c132b0 : (x50_55 == 9) = false := beq_eq_false_iff_ne.mpr c132
         have c132b1 : (x50_55 != 9) = true := bne_iff_ne.mpr c132
         have H' := zM H
         clear H
         go_wp2
         go_meet
         case rel => exact ⟨_, ((-1)), (t284), (t274), (t278), (.slice (some ad282) t274.length co13), zJJ, zJJ, H', ⟨by have := HJ4.1; have := HJ38.1; have := HJ55.1; first | omega | exact Nat.le_refl _⟩, ⟨zR HO_272000.1⟩, ⟨zK BK271.1⟩, ⟨zK BK272.1⟩, ⟨zK BK273.1⟩, ⟨zB0⟩⟩
        rw [if_pos c132] at H
        have c132b0 : (x50_55 == 9) = true := beq_iff_eq.mpr c132
        have c132b1 : (x50_55 != 9) = false := bne_eq_false_iff_eq.mpr c132
        clear c132
        have H' := zM H
        clear H
        have hnb133 := NB271_272.1
        have hnc133 := NB272_271.1
        have hnb134 := NB271_273.1
        have hnc134 := NB273_271.1
        have hcz135 := zc_3 (w := wc) BK271.1
        go_wp2
        go_meet
        case rel => exact ⟨_, ((-1)), (t277), (t274), (1), (.slice (some ad282) t274.length co13), zJJ, zJJ, H', ⟨by have := HJ4.1; have := HJ38.1; have := HJ55.1; first | omega | exact Nat.le_refl _⟩, ⟨by refine zrR ?_; exact Kd.R_mono (zfR (Kd.R_types HO_272000.1 BK271.1 (by decide))) (fun _ hk => trivial)⟩, ⟨by refine zP ?_; refine blk_put (cs := #[.slice (some ad282) t274.length co13, .int .i64 t277, .int .i64 t278]) ?_ 2 _ rfl; refine zP ?_; exact BK271.1⟩, ⟨by refine zP ?_; refine blk_far ?_ NB272_271.1 _; refine zP ?_; exact BK272.1⟩, ⟨by refine zP ?_; refine blk_far ?_ NB273_271.1 _; refine zP ?_; exact BK273.1⟩, ⟨zB0⟩⟩
       case rest =>
        clear HC64
        try clear hf8
        try clear hf9
        try clear hf10
        try clear hf11
        try clear hf87
        try clear hf94
        try clear hf100
        try clear hf112
        obtain ⟨kq, x10_63, x11_63, x272000_63, x272002_63, u272000, rfl, rfl, HA, HJ63, HO_272000, BK271, BK272, BK273, HB⟩ := hcut
        cases kq with
        | zero => exact absurd HA.1 (by simp [impl_Work.j3])
        | succ kj63 =>
         have H := HA.1
         clear HA
         simp only [impl_Work.j3] at H
         simp only [Option.some.injEq, Prod.mk.injEq] at H
         obtain ⟨rfl, rfl, rfl, rfl⟩ := H
         have hnb136 := NB271_272.1
         have hnc136 := NB272_271.1
         have hnb137 := NB271_273.1
         have hnc137 := NB273_271.1
         have hcz138 := zc_3 (w := wc) BK271.1
         obtain ⟨Ao139, co139, eo139⟩ := Kd.R_slice HO_272000.1
         subst eo139
         have hnb140 := NB273_272.1
         have hnc140 := NB272_273.1
         have hcz141 := zc_3 (w := wc) BK273.1
         go_wp2
         refine bodyPost_ret (results_ct rfl _ _ gb273 29 #[.slice Ao139 x272000_63.length co139, .int .i64 x11_63, .int .i64 x272002_63] (0, 0) _ rfl zPq Try.underlying29 rfl (by kernel_rfl)) rfl ?_
         exact ⟨_, zE, by refine zrR ?_; exact Kd.R_mono (zfR (zfR (zfR (zgR (Kd.R_types (Kd.R_types HO_272000.1 BK271.1 (by decide)) BK273.1 (by decide)))))) (fun _ hk => trivial), zB0⟩

end Go.Proofs.Ytnjdepmlpdjghaa.PFnAllEnds
