-- made by wip/tools/myprint.py out of the seat's translation
import Derived.Test.YtgbjengnkbomoaaPFnKnowsx0
import Derived.Test.YtgbjengnkbomoaaPFnKnowsx2
import Derived.Test.YtgbjengnkbomoaaPFnKnowsx5
namespace Go.Proofs.Ytgbjengnkbomoaa.PFnKnows
open Go.RowKit Go.Proofs.YtgbjengnkbomoaaW.PrintWords Go.Proofs.YtgbjengnkbomoaaW.PrintLast Go.Proofs.YtgbjengnkbomoaaW.PrintMore
attribute [local go_sem] max2_int min2_int max_two min_two max_three min_three max_four min_four   -- for this text's walks alone
set_option linter.unusedVariables false
set_option linter.unusedSimpArgs false
set_option maxHeartbeats 8000000
set_option maxRecDepth 100000
abbrev zq6_0 : Array Bool := #[false, false, false, false, false, false, false, false, false, false]
abbrev zq6_10 : Array Bool := #[true, true, true, true, true, true, true, true, true, true]

/-! ### spec_Work: function 79 -/
mutual
def spec_Work.j0 : Nat → Int → Bool → List Int → Int → Int → Int → Int → Int → Int → Int → List Int → Int → Int → Option (List Int × Int × Int × Int)
 | 0, _, _, _, _, _, _, _, _, _, _, _, _, _ => none
 | k + 1, x2, x26, x275000, x275001, x275002, x276000, x276001, x276002, x276003, x276004, x283000, x283001, x283002 => if x26 = true then (some (x283000, x283001, x283002, (-1))) else ((spec_l9Address.f (wrap64 (x275001 + 1))).bind fun t285 => ((spec_InsOk.f x276000 x276001 x276002 x276003 x276004).bind fun t286 => (if t286 = true then (if 0 ≤ x276002 then (if x276002 < (x275000.length : Int) then (if 0 ≤ x276003 then (if x276003 < (x275000.length : Int) then (spec_Work.j1 k x2 (-1) (rd x275000 x276002) (rd x275000 x276003) x276000 x275000 x275001 x275002 x276000 x276001 x276002 x276003 x276004 x283000 t285 x283002) else (none)) else (none)) else (none)) else (none)) else (some (x283000, x275001, 2, (-1))))))
def spec_Work.j1 : Nat → Int → Int → Int → Int → Int → List Int → Int → Int → Int → Int → Int → Int → Int → List Int → Int → Int → Option (List Int × Int × Int × Int)
 | 0, _, _, _, _, _, _, _, _, _, _, _, _, _, _, _, _ => none
 | k + 1, x2, x9, x10, x11, x54, x275000, x275001, x275002, x276000, x276001, x276002, x276003, x276004, x283000, x283001, x283002 => if x54 = 1 then (if 0 ≤ x276001 then (if x276001 < (x283000.length : Int) then (spec_Work.j2 k x9 (x283000.set (x276001 : Int).toNat x276004) x283001 x283002) else (none)) else (none)) else (if x54 = 2 then ((spec_l9Word.f (wrap64 (x10 + x11))).bind fun t290 => (if 0 ≤ x276001 then (if x276001 < (x283000.length : Int) then (spec_Work.j2 k x9 (x283000.set (x276001 : Int).toNat t290) x283001 x283002) else (none)) else (none))) else (if x54 = 10 then ((spec_l9Word.f (wrap64 (x10 - x11))).bind fun t292 => (if 0 ≤ x276001 then (if x276001 < (x283000.length : Int) then (spec_Work.j2 k x9 (x283000.set (x276001 : Int).toNat t292) x283001 x283002) else (none)) else (none))) else (if x54 = 3 then ((spec_l9Word.f (wrap64 (x10 + x276004))).bind fun t294 => (if 0 ≤ x276001 then (if x276001 < (x283000.length : Int) then (spec_Work.j2 k x9 (x283000.set (x276001 : Int).toNat t294) x283001 x283002) else (none)) else (none))) else (if x54 = 4 then (if 0 ≤ x276001 then (if x276001 < (x283000.length : Int) then (spec_Work.j2 k x9 (x283000.set (x276001 : Int).toNat x2) x283001 x283002) else (none)) else (none)) else (if x54 = 5 then (spec_Work.j2 k x11 x283000 x283001 x283002) else (if x54 = 6 then (if 0 ≤ x276001 then (if x276001 < (x283000.length : Int) then ((spec_l9Word.f (wrap64 (x2 + x11))).bind fun t298 => (spec_Work.j2 k t298 (x283000.set (x276001 : Int).toNat x2) x283001 x283002)) else (none)) else (none)) else (if x54 = 7 then (if x10 = 0 then ((spec_l9Address.f x276004).bind fun t299 => (spec_Work.j2 k x9 x283000 t299 x283002)) else (spec_Work.j2 k x9 x283000 x283001 x283002)) else (if x54 = 8 then ((spec_l9Address.f x276004).bind fun t300 => (spec_Work.j2 k x9 x283000 t300 x283002)) else (if x54 = 9 then (spec_Work.j2 k x9 x283000 x275001 1) else (spec_Work.j2 k x9 x283000 x283001 x283002))))))))))
def spec_Work.j2 : Nat → Int → List Int → Int → Int → Option (List Int × Int × Int × Int)
 | 0, _, _, _, _ => none
 | k + 1, x9, x283000, x283001, x283002 => some (x283000, x283001, x283002, x9)
end
def spec_Work.f (k : Nat) (l0_0 : List Int) (a0_1 : Int) (a0_2 : Int) (a1_0 : Int) (a1_1 : Int) (a1_2 : Int) (a1_3 : Int) (a1_4 : Int) (a2 : Int) : Option (List Int × Int × Int × Int) := (spec_l9Copy.f l0_0 a0_1 a0_2).bind fun bt277 => ((spec_HartOk.f k l0_0 a0_1 a0_2).bind fun t283 => (if t283 = true then (if a0_2 = 0 then ((spec_l1In.f a2 0 65535).bind fun t284 => (spec_Work.j0 k a2 (!t284) l0_0 a0_1 a0_2 a1_0 a1_1 a1_2 a1_3 a1_4 bt277.1 bt277.2.1 bt277.2.2)) else (spec_Work.j0 k a2 true l0_0 a0_1 a0_2 a1_0 a1_1 a1_2 a1_3 a1_4 bt277.1 bt277.2.1 bt277.2.2)) else (spec_Work.j0 k a2 true l0_0 a0_1 a0_2 a1_0 a1_1 a1_2 a1_3 a1_4 bt277.1 bt277.2.1 bt277.2.2)))
theorem spec_Work.mono_l : ∀ k, (∀ y0 y1 y2 y3 y4 y5 y6 y7 y8 y9 y10 y11 y12, LeO (spec_Work.j0 k y0 y1 y2 y3 y4 y5 y6 y7 y8 y9 y10 y11 y12) (spec_Work.j0 (k + 1) y0 y1 y2 y3 y4 y5 y6 y7 y8 y9 y10 y11 y12)) ∧ (∀ y0 y1 y2 y3 y4 y5 y6 y7 y8 y9 y10 y11 y12 y13 y14 y15, LeO (spec_Work.j1 k y0 y1 y2 y3 y4 y5 y6 y7 y8 y9 y10 y11 y12 y13 y14 y15) (spec_Work.j1 (k + 1) y0 y1 y2 y3 y4 y5 y6 y7 y8 y9 y10 y11 y12 y13 y14 y15)) ∧ (∀ y0 y1 y2 y3, LeO (spec_Work.j2 k y0 y1 y2 y3) (spec_Work.j2 (k + 1) y0 y1 y2 y3))
 | 0 => ⟨fun _ _ _ _ _ _ _ _ _ _ _ _ _ r h => by simp [spec_Work.j0] at h, fun _ _ _ _ _ _ _ _ _ _ _ _ _ _ _ _ r h => by simp [spec_Work.j1] at h, fun _ _ _ _ r h => by simp [spec_Work.j2] at h⟩
 | k + 1 => by
  obtain ⟨ih0, ih1, ih2⟩ := spec_Work.mono_l k
  refine ⟨?_, ?_, ?_⟩
  ·intros
   unfold spec_Work.j0
   have mo0 := @spec_HartOk.mono
   exact zL
  ·intros
   unfold spec_Work.j1
   have mo0 := @spec_HartOk.mono
   exact zL
  ·intros
   unfold spec_Work.j2
   have mo0 := @spec_HartOk.mono
   exact zL
theorem spec_Work.mono : ∀ a0 a1 a2 a3 a4 a5 a6 a7 a8 k, LeO (spec_Work.f k a0 a1 a2 a3 a4 a5 a6 a7 a8) (spec_Work.f (k + 1) a0 a1 a2 a3 a4 a5 a6 a7 a8) := by
 intro a0 a1 a2 a3 a4 a5 a6 a7 a8 k
 obtain ⟨ih0, ih1, ih2⟩ := spec_Work.mono_l k
 unfold spec_Work.f
 have mo0 := @spec_HartOk.mono
 exact zL
def spec_Work.T10 : Bool × List (List Nat × List Nat) := (true, [([], []), ([0], [0]), ([], []), ([2], [2]), ([1, 3], [1, 3]), ([4], [4]), ([], []), ([6], [6]), ([], []), ([8], [8]), ([7, 9], [7, 9]), ([10], [10]), ([5, 0, 1, 2, 3, 4, 5], [5]), ([11, 12, 0, 1, 2, 3, 4, 5, 6, 7, 8, 9, 10, 11, 12], [11])])
def spec_Work.B10 : List Nat := [0, 1, 0, 4, 15, 31, 0, 64, 0, 256, 960, 1984, 63, 8191]
theorem spec_Work.tab10 : rtab .any (opsOf Try.f79 10) = spec_Work.T10 := by kernel_rfl
theorem spec_Work.bits10 : waitsOk spec_Work.T10.2 spec_Work.B10 = true := by kernel_rfl
def spec_Work.T15 : Bool × List (List Nat × List Nat) := (true, [([], []), ([0], [0]), ([], []), ([2], [2]), ([], []), ([], []), ([4, 5], [4, 5]), ([6], [6]), ([1, 3, 0, 1, 2, 3, 4, 5, 6, 7], [1, 3]), ([8, 7, 7, 0, 1, 2, 3, 4, 5, 6, 7], [7, 8])])
def spec_Work.B15 : List Nat := [0, 1, 0, 4, 0, 0, 48, 112, 255, 511]
theorem spec_Work.tab15 : rtab .any (opsOf Try.f79 15) = spec_Work.T15 := by kernel_rfl
theorem spec_Work.bits15 : waitsOk spec_Work.T15.2 spec_Work.B15 = true := by kernel_rfl
def spec_Work.T17 : Bool × List (List Nat × List Nat) := (true, [([], []), ([0], [0]), ([], []), ([2], [2]), ([], []), ([], []), ([4, 5], [4, 5]), ([6], [6]), ([1, 3, 0, 1, 2, 3, 4, 5, 6, 7], [1, 3]), ([8, 7, 7, 0, 1, 2, 3, 4, 5, 6, 7], [7, 8])])
def spec_Work.B17 : List Nat := [0, 1, 0, 4, 0, 0, 48, 112, 255, 511]
theorem spec_Work.tab17 : rtab .any (opsOf Try.f79 17) = spec_Work.T17 := by kernel_rfl
theorem spec_Work.bits17 : waitsOk spec_Work.T17.2 spec_Work.B17 = true := by kernel_rfl
def spec_Work.T19 : Bool × List (List Nat × List Nat) := (true, [([], []), ([0], [0]), ([], []), ([2], [2]), ([], []), ([], []), ([5], [5]), ([4, 6], [4, 6]), ([7], [7]), ([1, 3, 0, 1, 2, 3, 4, 5, 6, 7, 8], [1, 3]), ([9, 8, 8, 0, 1, 2, 3, 4, 5, 6, 7, 8], [8, 9])])
def spec_Work.B19 : List Nat := [0, 1, 0, 4, 0, 0, 32, 112, 240, 511, 1023]
theorem spec_Work.tab19 : rtab .any (opsOf Try.f79 19) = spec_Work.T19 := by kernel_rfl
theorem spec_Work.bits19 : waitsOk spec_Work.T19.2 spec_Work.B19 = true := by kernel_rfl
theorem spec_Work.calls (k : Nat) (A0_0 : Option Addr) (c0_0 : Nat) (l0_0 : List Int) (a0_1 : Int) (a0_2 : Int) (a1_0 : Int) (a1_1 : Int) (a1_2 : Int) (a1_3 : Int) (a1_4 : Int) (a2 : Int) (r1 : List Int) (r2 : Int) (r3 : Int) (r4 : Int) (w : World) (hr0_0 : Kd.C (Kd.int .i64) w A0_0 l0_0.length l0_0) (hc0_0 : l0_0.length ≤ c0_0) (h : spec_Work.f k l0_0 a0_1 a0_2 a1_0 a1_1 a1_2 a1_3 a1_4 a2 = some (r1, r2, r3, r4)) :
  Calls Try.prog 79 #[.agg #[.slice A0_0 l0_0.length c0_0, .int .i64 a0_1, .int .i64 a0_2], .agg #[.int .i64 a1_0, .int .i64 a1_1, .int .i64 a1_2, .int .i64 a1_3, .int .i64 a1_4], .int .i64 a2] w fun e w' => ∃ v0_ : Value, e = .returned (.tuple #[.agg #[v0_, .int .i64 r2, .int .i64 r3], .int .i64 r4]) ∧ Kd.R (Kd.int .i64) 3 w' w.heap.size (fun _ => True) v0_ r1 ∧ Below w.heap.size w w' := by
 have HR0_0 := zM hr0_0
 have HC0_0 := zM hc0_0
 clear hr0_0 hc0_0
 have HB := zM (Below.refl w.heap.size w)
 unfold spec_Work.f at h
 have H := h
 clear h
 replace H := zO H
 obtain ⟨⟨t277, t280, t281⟩, A4, H⟩ := H
 try dsimp only at H
 have HC5 := zM H
 clear H
 go_enter Try.func79, Try.ntmps79
 go_upto_region 2 with (first | ((with_reducible refine zBx 3 49 #[.slice A0_0 l0_0.length c0_0, .int .i64 a0_1, .int .i64 a0_2] ?_); intro gb274 hg w6 hbox hb; have BK274 := zM hbox; replace HB := zM (below_step zB1 hb); clear hb hbox hg) | ((with_reducible refine zBx 4 71 #[.int .i64 a1_0, .int .i64 a1_1, .int .i64 a1_2, .int .i64 a1_3, .int .i64 a1_4] ?_); intro gb275 hg w7 hbox hb; have BK275 := zM hbox; replace HB := zM (below_step zB1 hb); replace BK274 := zM (zb BK274.1 hb); clear hb hbox hg) | ((with_reducible refine zBx 6 49 #[.slice none 0 0, .int .i64 0, .int .i64 0] ?_); intro gb276 hg w8 hbox hb; have BK276 := zM hbox; have GE276 := zM (zW hg (below_size zB1)); replace HB := zM (below_step zB1 hb); replace BK274 := zM (zb BK274.1 hb); have NB275_276 := zM ((zn BK275.1 hg : gb275 ≠ gb276)); have NB276_275 := zM ((zm BK275.1 hg : gb276 ≠ gb275)); replace BK275 := zM (zb BK275.1 hb); clear hb hbox hg; have hcz11 := zc_3 (w := w8) BK274.1) | ((with_reducible refine zG Try.func80 13 #[.agg #[.slice A0_0 l0_0.length c0_0, .int .i64 a0_1, .int .i64 a0_2]] ?_); (with_reducible refine (spec_l9Copy.calls _ _ l0_0 a0_1 a0_2 t277 t280 t281 _ ?side1 ?side2 A4.1).mono ?_); (case side1 => exact zC (Kd.C_below HR0_0.1 HB.1)); (case side2 => exact HC0_0.1); rintro e w12 ⟨v278, rfl, ho0, hb⟩; refine ⟨_, rfl, ?_⟩; have HO279 := zM (Kd.R_lower ho0 (below_size zB1)); replace BK274 := zM (zb BK274.1 hb); replace BK275 := zM (zb BK275.1 hb); replace BK276 := zM (zb BK276.1 hb); replace HB := zM (below_step zB1 hb); clear hb ho0) | ((with_reducible refine zBx 8 49 #[.slice none 0 0, .int .i64 0, .int .i64 0] ?_); intro gb282 hg w13 hbox hb; replace HO279 := zM (Kd.R_below (zR HO279.1) hb); have BK282 := zM hbox; have GE282 := zM (zW hg (below_size zB1)); replace HB := zM (below_step zB1 hb); have NB274_282 := zM ((zn BK274.1 hg : gb274 ≠ gb282)); have NB282_274 := zM ((zm BK274.1 hg : gb282 ≠ gb274)); replace BK274 := zM (zb BK274.1 hb); have NB275_282 := zM ((zn BK275.1 hg : gb275 ≠ gb282)); replace BK275 := zM (zb BK275.1 hb); have NB276_282 := zM ((zn BK276.1 hg : gb276 ≠ gb282)); have NB282_276 := zM ((zm BK276.1 hg : gb282 ≠ gb276)); replace BK276 := zM (zb BK276.1 hb); clear hb hbox hg; obtain ⟨Ao14, co14, eo14⟩ := Kd.R_slice HO279.1; subst eo14; have hcz18 := zc_3 (w := w13) BK282.1))
 (try simp only [Act.put, List.setIfInBounds_toArray, List.set_cons_zero, List.set_cons_succ])
 go_cut [26] (fun v26 wc => ∃ (kq : Nat) (x26_4 : Bool), v26 = .bool x26_4 ∧ Aside0 (spec_Work.j0 kq a2 x26_4 l0_0 a0_1 a0_2 a1_0 a1_1 a1_2 a1_3 a1_4 t277 t280 t281 = some (r1, r2, r3, r4)) ∧ Aside0 (kq ≤ k) ∧ Aside0 (Kd.R (Kd.int .i64) 3 wc w.heap.size (fun _ => True) (.slice Ao14 t277.length co14) t277) ∧ Aside0 (wc.heap[gb274]? = some (.cells #[(.slice A0_0 l0_0.length c0_0), .int .i64 a0_1, .int .i64 a0_2] 49 (0, 0))) ∧ Aside0 (wc.heap[gb275]? = some (.cells #[.int .i64 a1_0, .int .i64 a1_1, .int .i64 a1_2, .int .i64 a1_3, .int .i64 a1_4] 71 (0, 0))) ∧ Aside0 (wc.heap[gb276]? = some (.cells #[(.slice none 0 0), .int .i64 0, .int .i64 0] 49 (0, 0))) ∧ Aside0 (wc.heap[gb282]? = some (.cells #[(.slice Ao14 t277.length co14), .int .i64 t280, .int .i64 t281] 49 (0, 0))) ∧ Aside0 (Below w.heap.size w wc))
 case first =>
  have H := HC5.1
  clear HC5
  replace H := zO H
  obtain ⟨t283, A19, H⟩ := H
  by_cases c20 : t283 = true
  rotate_left
  ·replace c20 := Bool.eq_false_iff.mpr c20
   subst c20
   rw [if_neg zF] at H
   have H' := zM H
   clear H
   have hnc37 := NB282_274.1
   have hcz38 := zc_3 (w := w13) BK274.1
   go_wp2_with (first | ((with_reducible refine zG Try.func76 15 #[.agg #[.slice A0_0 l0_0.length c0_0, .int .i64 a0_1, .int .i64 a0_2]] ?_); (with_reducible refine (spec_HartOk.calls k _ _ l0_0 a0_1 a0_2 false _ ?side1 ?side2 A19.1).mono ?_); (case side1 => exact Kd.C_below HR0_0.1 zB1); (case side2 => exact HC0_0.1); rintro e w39 ⟨rfl, hb⟩; refine ⟨_, rfl, ?_⟩; replace HO279 := zM (Kd.R_below (by refine zrR ?_; exact (Kd.R_mono (Kd.R_far (p := ⟨gb282, 2, none⟩) (Kd.R_far (p := ⟨gb282, 1, none⟩) (Kd.R_far (p := ⟨gb282, 0, none⟩) (Kd.R_types HO279.1 BK282.1 (by decide)) (fun _ hk => hk.2) (.slice Ao14 t277.length co14)) (fun _ hk => hk.2) (.int .i64 t280)) (fun _ hk => hk.2) (.int .i64 t281)) (fun _ h_ => h_.1))) hb); replace BK274 := zM (zf BK274.1 hb); replace BK275 := zM (zf BK275.1 hb); replace BK276 := zM (zf BK276.1 hb); replace BK282 := zM (blk_below (g := gb282) (o := .cells #[.slice Ao14 t277.length co14, .int .i64 t280, .int .i64 t281] 49 (0, 0)) (by exact zp3 (zK BK282.1)) hb); replace HB := zM (below_step zB1 hb); clear hb))
   go_meet
   case rel => exact ⟨_, (true), zJJ, H', ⟨by first | omega | exact Nat.le_refl _⟩, ⟨zR HO279.1⟩, ⟨zK BK274.1⟩, ⟨zK BK275.1⟩, ⟨zK BK276.1⟩, ⟨zK BK282.1⟩, ⟨zB1⟩⟩
  subst c20
  rw [if_pos rfl] at H
  by_cases c21 : a0_2 = 0
  rotate_left
  ·rw [if_neg c21] at H
   have c21b0 : (a0_2 == 0) = false := beq_eq_false_iff_ne.mpr c21
   have c21b1 : (a0_2 != 0) = true := bne_iff_ne.mpr c21
   (first | rw [c21b0] | (simp only [i64_w, i32_w]; rw [c21b0]) | skip)
   have H' := zM H
   clear H
   have hnc31 := NB282_274.1
   have hcz32 := zc_3 (w := w13) BK274.1
   go_wp2_with (first | ((with_reducible refine zG Try.func76 15 #[.agg #[.slice A0_0 l0_0.length c0_0, .int .i64 a0_1, .int .i64 a0_2]] ?_); (with_reducible refine (spec_HartOk.calls k _ _ l0_0 a0_1 a0_2 true _ ?side1 ?side2 A19.1).mono ?_); (case side1 => exact Kd.C_below HR0_0.1 zB1); (case side2 => exact HC0_0.1); rintro e w33 ⟨rfl, hb⟩; refine ⟨_, rfl, ?_⟩; replace HO279 := zM (Kd.R_below (by refine zrR ?_; exact (Kd.R_mono (Kd.R_far (p := ⟨gb282, 2, none⟩) (Kd.R_far (p := ⟨gb282, 1, none⟩) (Kd.R_far (p := ⟨gb282, 0, none⟩) (Kd.R_types HO279.1 BK282.1 (by decide)) (fun _ hk => hk.2) (.slice Ao14 t277.length co14)) (fun _ hk => hk.2) (.int .i64 t280)) (fun _ hk => hk.2) (.int .i64 t281)) (fun _ h_ => h_.1))) hb); replace BK274 := zM (zf BK274.1 hb); replace BK275 := zM (zf BK275.1 hb); replace BK276 := zM (zf BK276.1 hb); replace BK282 := zM (blk_below (g := gb282) (o := .cells #[.slice Ao14 t277.length co14, .int .i64 t280, .int .i64 t281] 49 (0, 0)) (by exact zp3 (zK BK282.1)) hb); replace HB := zM (below_step zB1 hb); clear hb; have hcz34 := zc_3 (w := w33) BK274.1))
   go_meet
   case rel => exact ⟨_, (true), zJJ, H', ⟨by first | omega | exact Nat.le_refl _⟩, ⟨zR HO279.1⟩, ⟨zK BK274.1⟩, ⟨zK BK275.1⟩, ⟨zK BK276.1⟩, ⟨zK BK282.1⟩, ⟨zB1⟩⟩
  rw [if_pos c21] at H
  have c21b0 : (a0_2 == 0) = true := beq_iff_eq.mpr c21
  have c21b1 : (a0_2 != 0) = false := bne_eq_false_iff_eq.mpr c21
  clear c21
  (first | rw [c21b0] | (simp only [i64_w, i32_w]; rw [c21b0]) | skip)
  replace H := zO H
  obtain ⟨t284, A22, H⟩ := H
  have H' := zM H
  clear H
  have hnc25 := NB282_274.1
  have hcz26 := zc_3 (w := w13) BK274.1
  go_wp2_with (first | ((with_reducible refine zG Try.func76 15 #[.agg #[.slice A0_0 l0_0.length c0_0, .int .i64 a0_1, .int .i64 a0_2]] ?_); (with_reducible refine (spec_HartOk.calls k _ _ l0_0 a0_1 a0_2 true _ ?side1 ?side2 A19.1).mono ?_); (case side1 => exact Kd.C_below HR0_0.1 zB1); (case side2 => exact HC0_0.1); rintro e w27 ⟨rfl, hb⟩; refine ⟨_, rfl, ?_⟩; replace HO279 := zM (Kd.R_below (by refine zrR ?_; exact (Kd.R_mono (Kd.R_far (p := ⟨gb282, 2, none⟩) (Kd.R_far (p := ⟨gb282, 1, none⟩) (Kd.R_far (p := ⟨gb282, 0, none⟩) (Kd.R_types HO279.1 BK282.1 (by decide)) (fun _ hk => hk.2) (.slice Ao14 t277.length co14)) (fun _ hk => hk.2) (.int .i64 t280)) (fun _ hk => hk.2) (.int .i64 t281)) (fun _ h_ => h_.1))) hb); replace BK274 := zM (zf BK274.1 hb); replace BK275 := zM (zf BK275.1 hb); replace BK276 := zM (zf BK276.1 hb); replace BK282 := zM (blk_below (g := gb282) (o := .cells #[.slice Ao14 t277.length co14, .int .i64 t280, .int .i64 t281] 49 (0, 0)) (by exact zp3 (zK BK282.1)) hb); replace HB := zM (below_step zB1 hb); clear hb; have hcz28 := zc_3 (w := w27) BK274.1) | (go_at_call 44; (with_reducible refine (spec_l1In.calls a2 0 65535 t284 _ A22.1).mono ?_); rintro e w' ⟨rfl, ⟨nd, rfl⟩⟩))
  go_meet
  case rel => exact ⟨_, (!t284), zJJ, H', ⟨by first | omega | exact Nat.le_refl _⟩, ⟨zR HO279.1⟩, ⟨zK BK274.1⟩, ⟨zK BK275.1⟩, ⟨zK BK276.1⟩, ⟨zK BK282.1⟩, ⟨zB1⟩⟩
 case rest =>
  clear HC5
  try clear c1
  try clear c2
  try clear p2
  try clear c3
  try clear c7
  try clear c8
  try clear c9
  try clear c10
  try clear c15
  try clear c16
  try clear c17
  try clear c20
  try clear c21
  try clear c21b0
  try clear c21b1
  try clear c23
  try clear c24
  try clear c25
  try clear c29
  try clear c30
  try clear c31
  try clear c35
  try clear c36
  try clear c37
  try clear hcz11
  try clear hcz18
  try clear hcz26
  try clear hcz28
  try clear hcz32
  try clear hcz34
  try clear hcz38
  obtain ⟨kq, x26_4, rfl, HA, HJ4, HO_283000, BK274, BK275, BK276, BK282, HB⟩ := hcut
  cases kq with
  | zero => exact absurd HA.1 (by simp [spec_Work.j0])
  | succ kj4 =>
   have H := HA.1
   clear HA
   simp only [spec_Work.j0] at H
   by_cases c40 : x26_4 = true
   ·subst c40
    rw [if_pos rfl] at H
    simp only [Option.some.injEq, Prod.mk.injEq] at H
    obtain ⟨rfl, rfl, rfl, rfl⟩ := H
    have hcz44 := zc_3 (w := wc) BK282.1
    have hcz47 := zc_3 (w := wc) BK276.1
    go_wp2
    refine bodyPost_ret (results_ct rfl _ _ gb276 49 #[.slice Ao14 t277.length co14, .int .i64 t280, .int .i64 t281] (0, 0) _ rfl (by exact zp3 (zK BK276.1)) Try.underlying49 rfl (by kernel_rfl)) rfl ?_
    exact ⟨_, zE, by refine zrR ?_; exact Kd.R_mono (Kd.R_far (p := ⟨gb276, 2, none⟩) (Kd.R_far (p := ⟨gb276, 1, none⟩) (Kd.R_far (p := ⟨gb276, 0, none⟩) (Kd.R_types HO_283000.1 BK276.1 (by decide)) (fun _ hk => hk.2) (.slice Ao14 t277.length co14)) (fun _ hk => hk.2) (.int .i64 t280)) (fun _ hk => hk.2) (.int .i64 t281)) (fun _ hk => trivial), zB1⟩
   replace c40 := Bool.eq_false_iff.mpr c40
   subst c40
   rw [if_neg zF] at H
   replace H := zO H
   obtain ⟨t285, A48, H⟩ := H
   replace H := zO H
   obtain ⟨t286, A49, H⟩ := H
   by_cases c50 : t286 = true
   rotate_left
   ·replace c50 := Bool.eq_false_iff.mpr c50
    subst c50
    rw [if_neg zF] at H
    simp only [Option.some.injEq, Prod.mk.injEq] at H
    obtain ⟨rfl, rfl, rfl, rfl⟩ := H
    have hcz172 := zc_3 (w := wc) BK274.1
    go_wp2_with (first | ((with_reducible refine zG Try.func89 31 #[.int .i64 (wrap64 (a0_1 + 1))] ?_); (with_reducible refine (spec_l9Address.calls (wrap64 (a0_1 + 1)) t285 _ A48.1).mono ?_); rintro e w' ⟨rfl, ⟨nd, rfl⟩⟩; refine ⟨_, rfl, ?_⟩; (try (rw [drewN_self wc]; generalize hq_ : World.drewN wc _ = wc; have n0_ : Aside0 (Kd.R (Kd.int .i64) 3 wc w.heap.size (fun _ => True) (.slice Ao14 t277.length co14) t277) := ⟨by rw [← hq_]; exact (zR HO_283000.1)⟩; have n1_ : Aside0 (wc.heap[gb274]? = some (.cells #[.slice A0_0 l0_0.length c0_0, .int .i64 a0_1, .int .i64 a0_2] 49 (0, 0))) := ⟨by rw [← hq_]; exact (zK BK274.1)⟩; have n2_ : Aside0 (wc.heap[gb275]? = some (.cells #[.int .i64 a1_0, .int .i64 a1_1, .int .i64 a1_2, .int .i64 a1_3, .int .i64 a1_4] 71 (0, 0))) := ⟨by rw [← hq_]; exact (zK BK275.1)⟩; have n3_ : Aside0 (wc.heap[gb276]? = some (.cells #[.slice none 0 0, .int .i64 0, .int .i64 0] 49 (0, 0))) := ⟨by rw [← hq_]; exact (zK BK276.1)⟩; have n4_ : Aside0 (wc.heap[gb282]? = some (.cells #[.slice Ao14 t277.length co14, .int .i64 t280, .int .i64 t281] 49 (0, 0))) := ⟨by rw [← hq_]; exact (zK BK282.1)⟩; have n5_ : Aside0 (Below w.heap.size w wc) := ⟨by rw [← hq_]; exact zB1⟩; clear HO_283000 BK274 BK276 BK282 HB hq_; try clear BK275; have HO_283000 := n0_; have BK274 := n1_; have BK275 := n2_; have BK276 := n3_; have BK282 := n4_; have HB := n5_; clear n0_ n1_ n2_ n3_ n4_ n5_)); have hnc173 := NB275_282.1; have hnb174 := NB282_276.1; have hnc174 := NB276_282.1; have hcz175 := zc_3 (w := wc) BK282.1; have hnb176 := NB275_276.1; have hnc176 := NB276_275.1; have hcz177 := zc_5 (w := wc) BK275.1) | ((with_reducible refine zG Try.func88 34 #[.agg #[.int .i64 a1_0, .int .i64 a1_1, .int .i64 a1_2, .int .i64 a1_3, .int .i64 a1_4]] ?_); (with_reducible refine (spec_InsOk.calls a1_0 a1_1 a1_2 a1_3 a1_4 false _ A49.1).mono ?_); rintro e w178 ⟨rfl, hb⟩; refine ⟨_, rfl, ?_⟩; replace HO_283000 := zM (Kd.R_below (by refine zrR ?_; exact (Kd.R_mono (Kd.R_far (p := ⟨gb282, 1, none⟩) (Kd.R_types HO_283000.1 BK282.1 (by decide)) (fun _ hk => hk.2) (.int .i64 t285)) (fun _ h_ => h_.1))) hb); replace BK274 := zM (zf BK274.1 hb); replace BK276 := zM (zf BK276.1 hb); replace BK282 := zM (blk_below (g := gb282) (o := .cells #[.slice Ao14 t277.length co14, .int .i64 t285, .int .i64 t281] 49 (0, 0)) (by refine zP ?_; refine blk_put (cs := #[.slice Ao14 t277.length co14, .int .i64 t280, .int .i64 t281]) ?_ 1 _ rfl; refine zP ?_; exact BK282.1) hb); replace HB := zM (below_step zB1 hb); clear hb; have hcz179 := zc_3 (w := w178) BK274.1; have hcz180 := zc_3 (w := w178) BK282.1; have hcz181 := zc_3 (w := w178) BK276.1))
    refine bodyPost_ret (results_ct rfl _ _ gb276 49 #[.slice Ao14 t277.length co14, .int .i64 a0_1, .int .i64 2] (0, 0) _ rfl (by refine zP ?_; refine blk_put (cs := #[.slice Ao14 t277.length co14, .int .i64 a0_1, .int .i64 0]) ?_ 2 _ rfl; refine zP ?_; refine blk_put (cs := #[.slice Ao14 t277.length co14, .int .i64 0, .int .i64 0]) ?_ 1 _ rfl; refine zP ?_; refine blk_put (cs := #[.slice none 0 0, .int .i64 0, .int .i64 0]) ?_ 0 _ rfl; refine zP ?_; refine blk_far ?_ NB276_282.1 _; refine zP ?_; refine blk_far ?_ NB276_282.1 _; refine zP ?_; exact BK276.1) Try.underlying49 rfl (by kernel_rfl)) rfl ?_
    exact ⟨_, zE, by refine zrR ?_; exact Kd.R_mono (Kd.R_far (p := ⟨gb276, 2, none⟩) (Kd.R_far (p := ⟨gb276, 1, none⟩) (Kd.R_far (p := ⟨gb276, 0, none⟩) (Kd.R_far (p := ⟨gb282, 2, none⟩) (Kd.R_far (p := ⟨gb282, 1, none⟩) (Kd.R_types (Kd.R_types HO_283000.1 BK282.1 (by decide)) BK276.1 (by decide)) (fun _ hk => hk.1.2) (.int .i64 a0_1)) (fun _ hk => hk.1.2) (.int .i64 2)) (fun _ hk => hk.2) (.slice Ao14 t277.length co14)) (fun _ hk => hk.2) (.int .i64 a0_1)) (fun _ hk => hk.2) (.int .i64 2)) (fun _ hk => trivial), zB1⟩
   subst c50
   rw [if_pos rfl] at H
   replace H := zIt H
   obtain ⟨c51b0, H⟩ := H
   replace H := zIt H
   obtain ⟨c52b0, H⟩ := H
   replace H := zIt H
   obtain ⟨c53b0, H⟩ := H
   replace H := zIt H
   obtain ⟨c54b0, H⟩ := H
   have HC55 := zM H
   clear H
   have hcz59 := zc_3 (w := wc) BK274.1
   try go_wp2_with (first | ((with_reducible refine zG Try.func89 31 #[.int .i64 (wrap64 (a0_1 + 1))] ?_); (with_reducible refine (spec_l9Address.calls (wrap64 (a0_1 + 1)) t285 _ A48.1).mono ?_); rintro e w' ⟨rfl, ⟨nd, rfl⟩⟩; refine ⟨_, rfl, ?_⟩; (try (rw [drewN_self wc]; generalize hq_ : World.drewN wc _ = wc; have n0_ : Aside0 (Kd.R (Kd.int .i64) 3 wc w.heap.size (fun _ => True) (.slice Ao14 t277.length co14) t277) := ⟨by rw [← hq_]; exact (zR HO_283000.1)⟩; have n1_ : Aside0 (wc.heap[gb274]? = some (.cells #[.slice A0_0 l0_0.length c0_0, .int .i64 a0_1, .int .i64 a0_2] 49 (0, 0))) := ⟨by rw [← hq_]; exact (zK BK274.1)⟩; have n2_ : Aside0 (wc.heap[gb275]? = some (.cells #[.int .i64 a1_0, .int .i64 a1_1, .int .i64 a1_2, .int .i64 a1_3, .int .i64 a1_4] 71 (0, 0))) := ⟨by rw [← hq_]; exact (zK BK275.1)⟩; have n3_ : Aside0 (wc.heap[gb276]? = some (.cells #[.slice none 0 0, .int .i64 0, .int .i64 0] 49 (0, 0))) := ⟨by rw [← hq_]; exact (zK BK276.1)⟩; have n4_ : Aside0 (wc.heap[gb282]? = some (.cells #[.slice Ao14 t277.length co14, .int .i64 t280, .int .i64 t281] 49 (0, 0))) := ⟨by rw [← hq_]; exact (zK BK282.1)⟩; have n5_ : Aside0 (Below w.heap.size w wc) := ⟨by rw [← hq_]; exact zB1⟩; clear HO_283000 BK274 BK276 BK282 HB hq_; try clear BK275; have HO_283000 := n0_; have BK274 := n1_; have BK275 := n2_; have BK276 := n3_; have BK282 := n4_; have HB := n5_; clear n0_ n1_ n2_ n3_ n4_ n5_)); have hnc60 := NB275_282.1; have hnb61 := NB282_276.1; have hnc61 := NB276_282.1; have hcz62 := zc_3 (w := wc) BK282.1; have hnb63 := NB275_276.1; have hnc63 := NB276_275.1; have hcz64 := zc_5 (w := wc) BK275.1) | ((with_reducible refine zG Try.func88 34 #[.agg #[.int .i64 a1_0, .int .i64 a1_1, .int .i64 a1_2, .int .i64 a1_3, .int .i64 a1_4]] ?_); (with_reducible refine (spec_InsOk.calls a1_0 a1_1 a1_2 a1_3 a1_4 true _ A49.1).mono ?_); rintro e w65 ⟨rfl, hb⟩; refine ⟨_, rfl, ?_⟩; replace HO_283000 := zM (Kd.R_below (by refine zrR ?_; exact (Kd.R_mono (Kd.R_far (p := ⟨gb282, 1, none⟩) (Kd.R_types HO_283000.1 BK282.1 (by decide)) (fun _ hk => hk.2) (.int .i64 t285)) (fun _ h_ => h_.1))) hb); replace BK274 := zM (zf BK274.1 hb); replace BK275 := zM (zf BK275.1 hb); replace BK276 := zM (zf BK276.1 hb); replace BK282 := zM (blk_below (g := gb282) (o := .cells #[.slice Ao14 t277.length co14, .int .i64 t285, .int .i64 t281] 49 (0, 0)) (by refine zP ?_; refine blk_put (cs := #[.slice Ao14 t277.length co14, .int .i64 t280, .int .i64 t281]) ?_ 1 _ rfl; refine zP ?_; exact BK282.1) hb); replace HB := zM (below_step zB1 hb); clear hb))
   replace HO_283000 := zM (Kd.R_drew HO_283000.1)
   replace BK274 := zM (blk_drew BK274.1)
   replace BK275 := zM (blk_drew BK275.1)
   replace BK276 := zM (blk_drew BK276.1)
   replace BK282 := zM (blk_drew BK282.1)
   replace HB := zM (below_drew1 HB.1)
   have p287 : 0 ≤ (a1_2 : Int) := zA
   have q287 : a1_2 < (l0_0.length : Int) := zA
   obtain ⟨ad287, e287, hx287_0⟩ := Kd.at_int HR0_0.1 a1_2 p287 q287
   have hw287_0 := hx287_0
   cases e287
   replace hx287_0 := (HB.1.cell (World.block_lt_of_cell? w _ hx287_0)).trans hx287_0
   replace p287 := eq_true p287
   replace q287 := eq_true q287
   have p288 : 0 ≤ (a1_3 : Int) := zA
   have q288 : a1_3 < (l0_0.length : Int) := zA
   obtain ⟨ad288, e288, hx288_0⟩ := Kd.at_int HR0_0.1 a1_3 p288 q288
   have hw288_0 := hx288_0
   obtain rfl : ad287 = ad288 := (by injection e288)
   replace hx288_0 := (HB.1.cell (World.block_lt_of_cell? w _ hx288_0)).trans hx288_0
   replace p288 := eq_true p288
   replace q288 := eq_true q288
   refine start_ (n := 14) (S := fun w' => w'.cell? ⟨gb274, 0, none⟩ = some (.slice (some ad287) l0_0.length c0_0) ∧ w'.cell? ⟨gb274, 1, none⟩ = some (.int .i64 a0_1) ∧ w'.cell? ⟨gb274, 2, none⟩ = some (.int .i64 a0_2) ∧ w'.cell? ⟨gb275, 0, none⟩ = some (.int .i64 a1_0) ∧ w'.cell? ⟨gb275, 1, none⟩ = some (.int .i64 a1_1) ∧ w'.cell? ⟨gb275, 2, none⟩ = some (.int .i64 a1_2) ∧ w'.cell? ⟨gb275, 3, none⟩ = some (.int .i64 a1_3) ∧ w'.cell? ⟨gb275, 4, none⟩ = some (.int .i64 a1_4) ∧ w'.cell? (ad287.add (a1_2).toNat) = some (.int .i64 (rd l0_0 a1_2)) ∧ w'.cell? (ad287.add (a1_3).toNat) = some (.int .i64 (rd l0_0 a1_3))) (ds := []) #[false, false, false, false, false, false, false, false, false, false, false, false, false, false] (by kernel_rfl) rfl rfl ⟨(blk_cell BK274.1 0).trans rfl, (blk_cell BK274.1 1).trans rfl, (blk_cell BK274.1 2).trans rfl, (blk_cell BK275.1 0).trans rfl, (blk_cell BK275.1 1).trans rfl, (blk_cell BK275.1 2).trans rfl, (blk_cell BK275.1 3).trans rfl, (blk_cell BK275.1 4).trans rfl, ((HB.1.cell (World.block_lt_of_cell? w _ hw287_0)).trans hw287_0), ((HB.1.cell (World.block_lt_of_cell? w _ hw288_0)).trans hw288_0)⟩ (fun hHeld => ?_); refine with_tabW spec_Work.tab10 spec_Work.bits10 (fun HT_ HW_ => ?_)
   generalize w65.drew = w66 at HO_283000 BK274 BK275 BK276 BK282 HB hx287_0 hx288_0 hHeld ⊢
   refine zPu 0 ?_
   refine zPu 2 ?_
   refine zPu 6 ?_
   refine zPu 8 ?_
   refine zTk10 1 hHeld ?_
   refine zTk10 3 hHeld ?_
   refine zPu 4 ?_
   refine zTk10 5 hHeld ?_
   refine zPu 12 ?_
   refine zTk10 7 hHeld ?_
   refine zTk10 9 hHeld ?_
   refine zPu 10 ?_
   refine zTk10 11 hHeld ?_
   refine zPu 13 ?_
   refine done_ (done_of HT_.1 (by kernel_rfl)) ?_
   go_upto_region 11 with (fail)
   go_cut [54] (fun v54 wc => ∃ (kq : Nat) (x54_54 : Int), v54 = .int .i64 x54_54 ∧ Aside0 (spec_Work.j1 kq a2 (-1) (rd l0_0 a1_2) (rd l0_0 a1_3) x54_54 l0_0 a0_1 a0_2 a1_0 a1_1 a1_2 a1_3 a1_4 t277 t285 t281 = some (r1, r2, r3, r4)) ∧ Aside0 (kq ≤ kj4) ∧ Aside0 (Kd.R (Kd.int .i64) 3 wc w.heap.size (fun _ => True) (.slice Ao14 t277.length co14) t277) ∧ Aside0 (wc.heap[gb274]? = some (.cells #[(.slice (some ad287) l0_0.length c0_0), .int .i64 a0_1, .int .i64 a0_2] 49 (0, 0))) ∧ Aside0 (wc.heap[gb275]? = some (.cells #[.int .i64 a1_0, .int .i64 a1_1, .int .i64 a1_2, .int .i64 a1_3, .int .i64 a1_4] 71 (0, 0))) ∧ Aside0 (wc.heap[gb276]? = some (.cells #[(.slice none 0 0), .int .i64 0, .int .i64 0] 49 (0, 0))) ∧ Aside0 (wc.heap[gb282]? = some (.cells #[(.slice Ao14 t277.length co14), .int .i64 t285, .int .i64 t281] 49 (0, 0))) ∧ Aside0 (Below w.heap.size w wc))
   case first =>
    have H := HC55.1
    clear HC55
    have H' := zM H
    clear H
    go_wp2
    go_meet
    case rel => exact ⟨_, (a1_0), zJJ, H', ⟨by have := HJ4.1; first | omega | exact Nat.le_refl _⟩, ⟨zR HO_283000.1⟩, ⟨zK BK274.1⟩, ⟨zK BK275.1⟩, ⟨zK BK276.1⟩, ⟨zK BK282.1⟩, ⟨zB1⟩⟩
   case rest =>
    clear HC55
    try clear c1
    try clear c2
    try clear p2
    try clear q2
    try clear hx2
    try clear c3
    try clear c4
    try clear c5
    try clear c6
    try clear p6
    try clear c7
    try clear c8
    try clear c9
    try clear c10
    try clear c15
    try clear c16
    try clear c17
    try clear c20
    try clear c21
    try clear c21b0
    try clear c21b1
    try clear c23
    try clear c24
    try clear c25
    try clear p28
    try clear q28
    try clear hx28
    try clear c29
    try clear c30
    try clear c31
    try clear c35
    try clear c36
    try clear c37
    try clear c40
    try clear c41
    try clear c42
    try clear c43
    try clear c45
    try clear c46
    try clear c50
    try clear c51
    try clear c51b0
    try clear c52
    try clear c52b0
    try clear c53
    try clear c53b0
    try clear c54
    try clear c54b0
    try clear c56
    try clear c57
    try clear c58
    try clear c60
    try clear c61
    try clear c63
    try clear p64
    try clear c67
    try clear c68
    try clear c69
    try clear hcz11
    try clear hcz18
    try clear hcz26
    try clear hcz28
    try clear hcz32
    try clear hcz34
    try clear hcz38
    try clear hcz44
    try clear hcz47
    try clear hcz59
    try clear hcz62
    try clear hcz64
    try clear hcz70
    try clear hx287_0
    try clear hx288_0
    try clear p2
    try clear p287
    try clear p288
    try clear q287
    try clear q288
    obtain ⟨kq, x54_54, rfl, HA, HJ54, HO_283000, BK274, BK275, BK276, BK282, HB⟩ := hcut
    cases kq with
    | zero => exact absurd HA.1 (by simp [spec_Work.j1])
    | succ kj54 =>
     have H := HA.1
     clear HA
     simp only [spec_Work.j1] at H
     have HC71 := zM H
     clear H
     go_upto_block 0 with (fail)
     go_cut [9] (fun v9 wc => ∃ (kq : Nat) (x9_70 : Int) (x283000_70 : List Int) (x283001_70 : Int) (x283002_70 : Int) (u283000 : Value), v9 = .int .i64 x9_70 ∧ Aside0 (spec_Work.j2 kq x9_70 x283000_70 x283001_70 x283002_70 = some (r1, r2, r3, r4)) ∧ Aside0 (kq ≤ kj54) ∧ Aside0 (Kd.R (Kd.int .i64) 3 wc w.heap.size (fun _ => True) u283000 x283000_70) ∧ Aside0 (wc.heap[gb274]? = some (.cells #[(.slice (some ad287) l0_0.length c0_0), .int .i64 a0_1, .int .i64 a0_2] 49 (0, 0))) ∧ Aside0 (wc.heap[gb275]? = some (.cells #[.int .i64 a1_0, .int .i64 a1_1, .int .i64 a1_2, .int .i64 a1_3, .int .i64 a1_4] 71 (0, 0))) ∧ Aside0 (wc.heap[gb276]? = some (.cells #[(.slice none 0 0), .int .i64 0, .int .i64 0] 49 (0, 0))) ∧ Aside0 (wc.heap[gb282]? = some (.cells #[u283000, .int .i64 x283001_70, .int .i64 x283002_70] 49 (0, 0))) ∧ Aside0 (Below w.heap.size w wc))
     case first =>
      have H := HC71.1
      clear HC71
      by_cases c72 : x54_54 = 1
      ·rw [if_pos c72] at H
       have c72b0 : (x54_54 == 1) = true := beq_iff_eq.mpr c72
       clear c72
       (first | rw [c72b0] | (simp only [i64_w, i32_w]; rw [c72b0]) | skip)
       replace H := zIt H
       obtain ⟨c73b0, H⟩ := H
       replace H := zIt H
       obtain ⟨c74b0, H⟩ := H
       obtain ⟨y289, hy289⟩ : ∃ y_ : List Int, y_ = (t277.set (a1_1 : Int).toNat a1_4) := ⟨_, rfl⟩
       replace H : (spec_Work.j2 kj54 (-1) y289 t285 t281) = some (r1, r2, r3, r4) := by first | (rw [hy289]; with_reducible exact H) | (have H2_ := (Option.bind_some _ _).symm.trans H; rw [hy289]; with_reducible exact H2_) | (have H2_ := (Option.bind_some _ _).symm.trans H; with_reducible exact H2_) | with_reducible exact H | (rw [hy289]; exact H) | exact H
       have Ny289 := zM hy289
       clear hy289
       have H' := zM H
       clear H
       have hcz79 := zc_3 (w := wc) BK282.1
       have hcz82 := zc_5 (w := wc) BK275.1
       have p75 : 0 ≤ (a1_1 : Int) := zA
       have q75 : (a1_1 : Int) < ((t277.length : Int) : Int) := zA
       obtain ⟨go75, co75, eo75, gb75, gl75, cl75, HG75⟩ := Kd.R_form HO_283000.1 (by omega)
       (first | cases eo75 | (injection eo75 with ea_ en_ ec_; (first | subst ea_ | (injection ea_ with ea_; subst ea_)); subst ec_; clear en_))
       have GB75 := zM gb75
       clear gb75 gl75 HG75
       obtain ⟨hx75_0, hf75_0⟩ := Kd.R_celln 0 HO_283000.1 (a1_1 : Int) p75 q75
       replace p75 := eq_true p75
       replace q75 := eq_true q75
       have HP83 := Kd.R_putg HO_283000.1 (a1_1 : Int) a1_4
       go_wp2_with (first | ((with_reducible refine gate_store (t := 3) (p := 63) rfl ?_); refine store_event (t := 3) (p := 63) (v := ?vo_w84) (w1 := (wc.setCell ⟨go75, (a1_1 : Int).toNat, none⟩ (.int .i64 a1_4))) ?hg ?ho ?hn ?hr ?_; (case ho => rfl); (case hg => rfl); (case hn => rfl); (case hr => exact zHH); intro w84 hw; have hg : wc.grownBy w84 (some go75) := (by rw [hw]; exact HP83.2); have hp_ : Kd.R (Kd.int .i64) 3 w84 w.heap.size (fun _ => True) (.slice (some ⟨go75, 0, none⟩) t277.length co14) y289 := (by rw [hw, Ny289.1]; exact HP83.1); clear HP83; replace BK274 := zM (zg BK274.1 hg (Kd.R_ne HO_283000.1 BK274.1 (by decide))); replace BK275 := zM (zg BK275.1 hg (Kd.R_ne HO_283000.1 BK275.1 (by decide))); replace BK276 := zM (zg BK276.1 hg (Kd.R_ne HO_283000.1 BK276.1 (by decide))); replace BK282 := zM (zg BK282.1 hg (Kd.R_ne HO_283000.1 BK282.1 (by decide))); replace HO_283000 := zM hp_; replace HB := zM ((by rw [hw]; exact below_set (HB.1) GB75.1 : Below w.heap.size w w84)); clear hg hw hp_))
       go_meet
       case rel => exact ⟨_, ((-1)), (y289), (t285), (t281), (.slice (some ⟨go75, 0, none⟩) t277.length co14), zJJ, H', ⟨by have := HJ4.1; have := HJ54.1; first | omega | exact Nat.le_refl _⟩, ⟨zR HO_283000.1⟩, ⟨zK BK274.1⟩, ⟨zK BK275.1⟩, ⟨zK BK276.1⟩, ⟨zK BK282.1⟩, ⟨zB1⟩⟩
      rw [if_neg c72] at H
      have c72b0 : (x54_54 == 1) = false := beq_eq_false_iff_ne.mpr c72
      (first | rw [c72b0] | (simp only [i64_w, i32_w]; rw [c72b0]) | skip)
      by_cases c85 : x54_54 = 2
      ·rw [if_pos c85] at H
       have c85b0 : (x54_54 == 2) = true := beq_iff_eq.mpr c85
       clear c85
       replace H := zO H
       obtain ⟨t290, A86, H⟩ := H
       replace H := zIt H
       obtain ⟨c87b0, H⟩ := H
       replace H := zIt H
       obtain ⟨c88b0, H⟩ := H
       obtain ⟨y291, hy291⟩ : ∃ y_ : List Int, y_ = (t277.set (a1_1 : Int).toNat t290) := ⟨_, rfl⟩
       replace H : (spec_Work.j2 kj54 (-1) y291 t285 t281) = some (r1, r2, r3, r4) := by first | (rw [hy291]; with_reducible exact H) | (have H2_ := (Option.bind_some _ _).symm.trans H; rw [hy291]; with_reducible exact H2_) | (have H2_ := (Option.bind_some _ _).symm.trans H; with_reducible exact H2_) | with_reducible exact H | (rw [hy291]; exact H) | exact H
       have Ny291 := zM hy291
       clear hy291
       have H' := zM H
       clear H
       try go_wp2
       replace HO_283000 := zM (Kd.R_drew HO_283000.1)
       replace BK274 := zM (blk_drew BK274.1)
       replace BK275 := zM (blk_drew BK275.1)
       replace BK276 := zM (blk_drew BK276.1)
       replace BK282 := zM (blk_drew BK282.1)
       replace HB := zM (below_drew1 HB.1)
       refine start_ (n := 10) (S := fun w' => w'.cell? ⟨gb282, 0, none⟩ = some (.slice Ao14 t277.length co14) ∧ w'.cell? ⟨gb282, 1, none⟩ = some (.int .i64 t285) ∧ w'.cell? ⟨gb282, 2, none⟩ = some (.int .i64 t281) ∧ w'.cell? ⟨gb275, 0, none⟩ = some (.int .i64 a1_0) ∧ w'.cell? ⟨gb275, 1, none⟩ = some (.int .i64 a1_1) ∧ w'.cell? ⟨gb275, 2, none⟩ = some (.int .i64 a1_2) ∧ w'.cell? ⟨gb275, 3, none⟩ = some (.int .i64 a1_3) ∧ w'.cell? ⟨gb275, 4, none⟩ = some (.int .i64 a1_4)) (ds := [9]) zq6_0 (by kernel_rfl) rfl rfl ⟨(blk_cell BK282.1 0).trans rfl, (blk_cell BK282.1 1).trans rfl, (blk_cell BK282.1 2).trans rfl, (blk_cell BK275.1 0).trans rfl, (blk_cell BK275.1 1).trans rfl, (blk_cell BK275.1 2).trans rfl, (blk_cell BK275.1 3).trans rfl, (blk_cell BK275.1 4).trans rfl⟩ (fun hHeld => ?_); refine with_tabW spec_Work.tab15 spec_Work.bits15 (fun HT_ HW_ => ?_)
       generalize wc.drew = w90 at HO_283000 BK274 BK275 BK276 BK282 HB hHeld ⊢
       refine zPu 0 ?_
       refine zPu 2 ?_
       refine zPu 4 ?_
       refine zPu 5 ?_
       refine zPu 6 ?_
       refine zTk8 1 hHeld ?_
       refine zTk8 3 hHeld ?_
       refine zOn 7 (some 73) fun K hK => ?_
       refine zGs Try.func90 #[.int .i64 (wrap64 ((rd l0_0 a1_2) + (rd l0_0 a1_3)))] ?_
       with_reducible refine (spec_l9Word.calls (wrap64 ((rd l0_0 a1_2) + (rd l0_0 a1_3))) t290 _ A86.1).mono ?_
       rintro e w' ⟨rfl, ⟨nd, rfl⟩⟩
       refine ⟨_, rfl, ?_⟩
       (try (rw [drewN_self w90]; generalize hq_ : World.drewN w90 _ = w90; have n0_ : Aside0 (Kd.R (Kd.int .i64) 3 w90 w.heap.size (fun _ => True) (.slice Ao14 t277.length co14) t277) := ⟨by rw [← hq_]; exact (zR HO_283000.1)⟩; have n1_ : Aside0 (w90.heap[gb274]? = some (.cells #[.slice (some ad287) l0_0.length c0_0, .int .i64 a0_1, .int .i64 a0_2] 49 (0, 0))) := ⟨by rw [← hq_]; exact (zK BK274.1)⟩; have n2_ : Aside0 (w90.heap[gb275]? = some (.cells #[.int .i64 a1_0, .int .i64 a1_1, .int .i64 a1_2, .int .i64 a1_3, .int .i64 a1_4] 71 (0, 0))) := ⟨by rw [← hq_]; exact (zK BK275.1)⟩; have n3_ : Aside0 (w90.heap[gb276]? = some (.cells #[.slice none 0 0, .int .i64 0, .int .i64 0] 49 (0, 0))) := ⟨by rw [← hq_]; exact (zK BK276.1)⟩; have n4_ : Aside0 (w90.heap[gb282]? = some (.cells #[.slice Ao14 t277.length co14, .int .i64 t285, .int .i64 t281] 49 (0, 0))) := ⟨by rw [← hq_]; exact (zK BK282.1)⟩; have n5_ : Aside0 (Below w.heap.size w w90) := ⟨by rw [← hq_]; exact zB1⟩; clear HO_283000 BK274 BK276 BK282 HB hq_; try clear BK275; have HO_283000 := n0_; have BK274 := n1_; have BK275 := n2_; have BK276 := n3_; have BK282 := n4_; have HB := n5_; clear n0_ n1_ n2_ n3_ n4_ n5_))
       have p89 : 0 ≤ (a1_1 : Int) := zA
       have q89 : (a1_1 : Int) < ((t277.length : Int) : Int) := zA
       obtain ⟨go89, co89, eo89, gb89, gl89, cl89, HG89⟩ := Kd.R_form HO_283000.1 (by omega)
       (first | cases eo89 | (injection eo89 with ea_ en_ ec_; (first | subst ea_ | (injection ea_ with ea_; subst ea_)); subst ec_; clear en_))
       have GB89 := zM gb89
       clear gb89 gl89 HG89
       obtain ⟨hx89_0, hf89_0⟩ := Kd.R_celln 0 HO_283000.1 (a1_1 : Int) p89 q89
       replace p89 := eq_true p89
       replace q89 := eq_true q89
       have HP91 := Kd.R_putn HO_283000.1 (a1_1 : Int) t290
       rw [← Ny291.1] at HP91
       have HQ91 := zM HP91
       clear HP91
       refine hK.out _ _ zCs fun hHeld => ?_
       clear hK K
       refine zNo ?_
       refine zPu 8 ?_
       refine last_ (i := 9) (N := none) zq6_10 rfl rfl (one_of HT_.1 (by kernel_rfl)) (by decide) (fun K hK => ?_)
       refine skip_ (w1 := ?_) (by rfl) rfl ?_ ?_
       rotate_left
       ·go_simp
        rfl
       refine hK.out _ _ ?_
       clear hK K
       refine done_ (done_of HT_.1 (by kernel_rfl)) ?_
       try go_wp2
       go_meet
       case rel => exact ⟨_, ((-1)), (y291), (t285), (t281), (.slice (some ⟨go89, 0, none⟩) t277.length co14), zJJ, H', ⟨by have := HJ4.1; have := HJ54.1; first | omega | exact Nat.le_refl _⟩, ⟨zR HQ91.out⟩, ⟨by refine zP ?_; refine blk_far ?_ (by have h_ := Kd.R_ne HO_283000.1 BK274.1 (by decide); intro e_; exact h_ (by rw [e_]; rfl)) _; refine zP ?_; exact BK274.1⟩, ⟨by refine zP ?_; refine blk_far ?_ (by have h_ := Kd.R_ne HO_283000.1 BK275.1 (by decide); intro e_; exact h_ (by rw [e_]; rfl)) _; refine zP ?_; exact BK275.1⟩, ⟨by refine zP ?_; refine blk_far ?_ (by have h_ := Kd.R_ne HO_283000.1 BK276.1 (by decide); intro e_; exact h_ (by rw [e_]; rfl)) _; refine zP ?_; exact BK276.1⟩, ⟨by refine zP ?_; refine blk_far ?_ (by have h_ := Kd.R_ne HO_283000.1 BK282.1 (by decide); intro e_; exact h_ (by rw [e_]; rfl)) _; refine zP ?_; exact BK282.1⟩, ⟨zB1⟩⟩
      rw [if_neg c85] at H
      have c85b0 : (x54_54 == 2) = false := beq_eq_false_iff_ne.mpr c85
      by_cases c92 : x54_54 = 10
      ·rw [if_pos c92] at H
       have c92b0 : (x54_54 == 10) = true := beq_iff_eq.mpr c92
       clear c92
       replace H := zO H
       obtain ⟨t292, A93, H⟩ := H
       replace H := zIt H
       obtain ⟨c94b0, H⟩ := H
       replace H := zIt H
       obtain ⟨c95b0, H⟩ := H
       obtain ⟨y293, hy293⟩ : ∃ y_ : List Int, y_ = (t277.set (a1_1 : Int).toNat t292) := ⟨_, rfl⟩
       replace H : (spec_Work.j2 kj54 (-1) y293 t285 t281) = some (r1, r2, r3, r4) := by first | (rw [hy293]; with_reducible exact H) | (have H2_ := (Option.bind_some _ _).symm.trans H; rw [hy293]; with_reducible exact H2_) | (have H2_ := (Option.bind_some _ _).symm.trans H; with_reducible exact H2_) | with_reducible exact H | (rw [hy293]; exact H) | exact H
       have Ny293 := zM hy293
       clear hy293
       have H' := zM H
       clear H
       try go_wp2
       replace HO_283000 := zM (Kd.R_drew HO_283000.1)
       replace BK274 := zM (blk_drew BK274.1)
       replace BK275 := zM (blk_drew BK275.1)
       replace BK276 := zM (blk_drew BK276.1)
       replace BK282 := zM (blk_drew BK282.1)
       replace HB := zM (below_drew1 HB.1)
       refine start_ (n := 10) (S := fun w' => w'.cell? ⟨gb282, 0, none⟩ = some (.slice Ao14 t277.length co14) ∧ w'.cell? ⟨gb282, 1, none⟩ = some (.int .i64 t285) ∧ w'.cell? ⟨gb282, 2, none⟩ = some (.int .i64 t281) ∧ w'.cell? ⟨gb275, 0, none⟩ = some (.int .i64 a1_0) ∧ w'.cell? ⟨gb275, 1, none⟩ = some (.int .i64 a1_1) ∧ w'.cell? ⟨gb275, 2, none⟩ = some (.int .i64 a1_2) ∧ w'.cell? ⟨gb275, 3, none⟩ = some (.int .i64 a1_3) ∧ w'.cell? ⟨gb275, 4, none⟩ = some (.int .i64 a1_4)) (ds := [9]) zq6_0 (by kernel_rfl) rfl rfl ⟨(blk_cell BK282.1 0).trans rfl, (blk_cell BK282.1 1).trans rfl, (blk_cell BK282.1 2).trans rfl, (blk_cell BK275.1 0).trans rfl, (blk_cell BK275.1 1).trans rfl, (blk_cell BK275.1 2).trans rfl, (blk_cell BK275.1 3).trans rfl, (blk_cell BK275.1 4).trans rfl⟩ (fun hHeld => ?_); refine with_tabW spec_Work.tab17 spec_Work.bits17 (fun HT_ HW_ => ?_)
       generalize wc.drew = w97 at HO_283000 BK274 BK275 BK276 BK282 HB hHeld ⊢
       refine zPu 0 ?_
       refine zPu 2 ?_
       refine zPu 4 ?_
       refine zPu 5 ?_
       refine zPu 6 ?_
       refine zTk8 1 hHeld ?_
       refine zTk8 3 hHeld ?_
       refine zOn 7 (some 84) fun K hK => ?_
       refine zGs Try.func90 #[.int .i64 (wrap64 ((rd l0_0 a1_2) - (rd l0_0 a1_3)))] ?_
       with_reducible refine (spec_l9Word.calls (wrap64 ((rd l0_0 a1_2) - (rd l0_0 a1_3))) t292 _ A93.1).mono ?_
       rintro e w' ⟨rfl, ⟨nd, rfl⟩⟩
       refine ⟨_, rfl, ?_⟩
       (try (rw [drewN_self w97]; generalize hq_ : World.drewN w97 _ = w97; have n0_ : Aside0 (Kd.R (Kd.int .i64) 3 w97 w.heap.size (fun _ => True) (.slice Ao14 t277.length co14) t277) := ⟨by rw [← hq_]; exact (zR HO_283000.1)⟩; have n1_ : Aside0 (w97.heap[gb274]? = some (.cells #[.slice (some ad287) l0_0.length c0_0, .int .i64 a0_1, .int .i64 a0_2] 49 (0, 0))) := ⟨by rw [← hq_]; exact (zK BK274.1)⟩; have n2_ : Aside0 (w97.heap[gb275]? = some (.cells #[.int .i64 a1_0, .int .i64 a1_1, .int .i64 a1_2, .int .i64 a1_3, .int .i64 a1_4] 71 (0, 0))) := ⟨by rw [← hq_]; exact (zK BK275.1)⟩; have n3_ : Aside0 (w97.heap[gb276]? = some (.cells #[.slice none 0 0, .int .i64 0, .int .i64 0] 49 (0, 0))) := ⟨by rw [← hq_]; exact (zK BK276.1)⟩; have n4_ : Aside0 (w97.heap[gb282]? = some (.cells #[.slice Ao14 t277.length co14, .int .i64 t285, .int .i64 t281] 49 (0, 0))) := ⟨by rw [← hq_]; exact (zK BK282.1)⟩; have n5_ : Aside0 (Below w.heap.size w w97) := ⟨by rw [← hq_]; exact zB1⟩; clear HO_283000 BK274 BK276 BK282 HB hq_; try clear BK275; have HO_283000 := n0_; have BK274 := n1_; have BK275 := n2_; have BK276 := n3_; have BK282 := n4_; have HB := n5_; clear n0_ n1_ n2_ n3_ n4_ n5_))
       have p96 : 0 ≤ (a1_1 : Int) := zA
       have q96 : (a1_1 : Int) < ((t277.length : Int) : Int) := zA
       obtain ⟨go96, co96, eo96, gb96, gl96, cl96, HG96⟩ := Kd.R_form HO_283000.1 (by omega)
       (first | cases eo96 | (injection eo96 with ea_ en_ ec_; (first | subst ea_ | (injection ea_ with ea_; subst ea_)); subst ec_; clear en_))
       have GB96 := zM gb96
       clear gb96 gl96 HG96
       obtain ⟨hx96_0, hf96_0⟩ := Kd.R_celln 0 HO_283000.1 (a1_1 : Int) p96 q96
       replace p96 := eq_true p96
       replace q96 := eq_true q96
       have HP98 := Kd.R_putn HO_283000.1 (a1_1 : Int) t292
       rw [← Ny293.1] at HP98
       have HQ98 := zM HP98
       clear HP98
       refine hK.out _ _ zCs fun hHeld => ?_
       clear hK K
       refine zNo ?_
       refine zPu 8 ?_
       refine last_ (i := 9) (N := none) zq6_10 rfl rfl (one_of HT_.1 (by kernel_rfl)) (by decide) (fun K hK => ?_)
       refine skip_ (w1 := ?_) (by rfl) rfl ?_ ?_
       rotate_left
       ·go_simp
        rfl
       refine hK.out _ _ ?_
       clear hK K
       refine done_ (done_of HT_.1 (by kernel_rfl)) ?_
       try go_wp2
       go_meet
       case rel => exact ⟨_, ((-1)), (y293), (t285), (t281), (.slice (some ⟨go96, 0, none⟩) t277.length co14), zJJ, H', ⟨by have := HJ4.1; have := HJ54.1; first | omega | exact Nat.le_refl _⟩, ⟨zR HQ98.out⟩, ⟨by refine zP ?_; refine blk_far ?_ (by have h_ := Kd.R_ne HO_283000.1 BK274.1 (by decide); intro e_; exact h_ (by rw [e_]; rfl)) _; refine zP ?_; exact BK274.1⟩, ⟨by refine zP ?_; refine blk_far ?_ (by have h_ := Kd.R_ne HO_283000.1 BK275.1 (by decide); intro e_; exact h_ (by rw [e_]; rfl)) _; refine zP ?_; exact BK275.1⟩, ⟨by refine zP ?_; refine blk_far ?_ (by have h_ := Kd.R_ne HO_283000.1 BK276.1 (by decide); intro e_; exact h_ (by rw [e_]; rfl)) _; refine zP ?_; exact BK276.1⟩, ⟨by refine zP ?_; refine blk_far ?_ (by have h_ := Kd.R_ne HO_283000.1 BK282.1 (by decide); intro e_; exact h_ (by rw [e_]; rfl)) _; refine zP ?_; exact BK282.1⟩, ⟨zB1⟩⟩
      rw [if_neg c92] at H
      have c92b0 : (x54_54 == 10) = false := beq_eq_false_iff_ne.mpr c92
      by_cases c99 : x54_54 = 3
      ·rw [if_pos c99] at H
       have c99b0 : (x54_54 == 3) = true := beq_iff_eq.mpr c99
       clear c99
       replace H := zO H
       obtain ⟨t294, A100, H⟩ := H
       replace H := zIt H
       obtain ⟨c101b0, H⟩ := H
       replace H := zIt H
       obtain ⟨c102b0, H⟩ := H
       obtain ⟨y295, hy295⟩ : ∃ y_ : List Int, y_ = (t277.set (a1_1 : Int).toNat t294) := ⟨_, rfl⟩
       replace H : (spec_Work.j2 kj54 (-1) y295 t285 t281) = some (r1, r2, r3, r4) := by first | (rw [hy295]; with_reducible exact H) | (have H2_ := (Option.bind_some _ _).symm.trans H; rw [hy295]; with_reducible exact H2_) | (have H2_ := (Option.bind_some _ _).symm.trans H; with_reducible exact H2_) | with_reducible exact H | (rw [hy295]; exact H) | exact H
       have Ny295 := zM hy295
       clear hy295
       have H' := zM H
       clear H
       try go_wp2
       replace HO_283000 := zM (Kd.R_drew HO_283000.1)
       replace BK274 := zM (blk_drew BK274.1)
       replace BK275 := zM (blk_drew BK275.1)
       replace BK276 := zM (blk_drew BK276.1)
       replace BK282 := zM (blk_drew BK282.1)
       replace HB := zM (below_drew1 HB.1)
       refine start_ (n := 11) (S := fun w' => w'.cell? ⟨gb282, 0, none⟩ = some (.slice Ao14 t277.length co14) ∧ w'.cell? ⟨gb282, 1, none⟩ = some (.int .i64 t285) ∧ w'.cell? ⟨gb282, 2, none⟩ = some (.int .i64 t281) ∧ w'.cell? ⟨gb275, 0, none⟩ = some (.int .i64 a1_0) ∧ w'.cell? ⟨gb275, 1, none⟩ = some (.int .i64 a1_1) ∧ w'.cell? ⟨gb275, 2, none⟩ = some (.int .i64 a1_2) ∧ w'.cell? ⟨gb275, 3, none⟩ = some (.int .i64 a1_3) ∧ w'.cell? ⟨gb275, 4, none⟩ = some (.int .i64 a1_4)) (ds := [10]) #[false, false, false, false, false, false, false, false, false, false, false] (by kernel_rfl) rfl rfl ⟨(blk_cell BK282.1 0).trans rfl, (blk_cell BK282.1 1).trans rfl, (blk_cell BK282.1 2).trans rfl, (blk_cell BK275.1 0).trans rfl, (blk_cell BK275.1 1).trans rfl, (blk_cell BK275.1 2).trans rfl, (blk_cell BK275.1 3).trans rfl, (blk_cell BK275.1 4).trans rfl⟩ (fun hHeld => ?_); refine with_tabW spec_Work.tab19 spec_Work.bits19 (fun HT_ HW_ => ?_)
       generalize wc.drew = w104 at HO_283000 BK274 BK275 BK276 BK282 HB hHeld ⊢
       refine zPu 0 ?_
       refine zPu 2 ?_
       refine zPu 4 ?_
       refine zPu 5 ?_
       refine zTk8 1 hHeld ?_
       refine zTk8 3 hHeld ?_
       refine zTk8 6 hHeld ?_
       refine zPu 7 ?_
       refine zOn 8 (some 96) fun K hK => ?_
       refine zGs Try.func90 #[.int .i64 (wrap64 ((rd l0_0 a1_2) + a1_4))] ?_
       with_reducible refine (spec_l9Word.calls (wrap64 ((rd l0_0 a1_2) + a1_4)) t294 _ A100.1).mono ?_
       rintro e w' ⟨rfl, ⟨nd, rfl⟩⟩
       refine ⟨_, rfl, ?_⟩
       (try (rw [drewN_self w104]; generalize hq_ : World.drewN w104 _ = w104; have n0_ : Aside0 (Kd.R (Kd.int .i64) 3 w104 w.heap.size (fun _ => True) (.slice Ao14 t277.length co14) t277) := ⟨by rw [← hq_]; exact (zR HO_283000.1)⟩; have n1_ : Aside0 (w104.heap[gb274]? = some (.cells #[.slice (some ad287) l0_0.length c0_0, .int .i64 a0_1, .int .i64 a0_2] 49 (0, 0))) := ⟨by rw [← hq_]; exact (zK BK274.1)⟩; have n2_ : Aside0 (w104.heap[gb275]? = some (.cells #[.int .i64 a1_0, .int .i64 a1_1, .int .i64 a1_2, .int .i64 a1_3, .int .i64 a1_4] 71 (0, 0))) := ⟨by rw [← hq_]; exact (zK BK275.1)⟩; have n3_ : Aside0 (w104.heap[gb276]? = some (.cells #[.slice none 0 0, .int .i64 0, .int .i64 0] 49 (0, 0))) := ⟨by rw [← hq_]; exact (zK BK276.1)⟩; have n4_ : Aside0 (w104.heap[gb282]? = some (.cells #[.slice Ao14 t277.length co14, .int .i64 t285, .int .i64 t281] 49 (0, 0))) := ⟨by rw [← hq_]; exact (zK BK282.1)⟩; have n5_ : Aside0 (Below w.heap.size w w104) := ⟨by rw [← hq_]; exact zB1⟩; clear HO_283000 BK274 BK276 BK282 HB hq_; try clear BK275; have HO_283000 := n0_; have BK274 := n1_; have BK275 := n2_; have BK276 := n3_; have BK282 := n4_; have HB := n5_; clear n0_ n1_ n2_ n3_ n4_ n5_))
       have p103 : 0 ≤ (a1_1 : Int) := zA
       have q103 : (a1_1 : Int) < ((t277.length : Int) : Int) := zA
       obtain ⟨go103, co103, eo103, gb103, gl103, cl103, HG103⟩ := Kd.R_form HO_283000.1 (by omega)
       (first | cases eo103 | (injection eo103 with ea_ en_ ec_; (first | subst ea_ | (injection ea_ with ea_; subst ea_)); subst ec_; clear en_))
       have GB103 := zM gb103
       clear gb103 gl103 HG103
       obtain ⟨hx103_0, hf103_0⟩ := Kd.R_celln 0 HO_283000.1 (a1_1 : Int) p103 q103
       replace p103 := eq_true p103
       replace q103 := eq_true q103
       have HP105 := Kd.R_putn HO_283000.1 (a1_1 : Int) t294
       rw [← Ny295.1] at HP105
       have HQ105 := zM HP105
       clear HP105
       refine hK.out _ _ zCs fun hHeld => ?_
       clear hK K
       refine zNo ?_
       refine zPu 9 ?_
       refine last_ (i := 10) (N := none) #[true, true, true, true, true, true, true, true, true, true, true] rfl rfl (one_of HT_.1 (by kernel_rfl)) (by decide) (fun K hK => ?_)
       refine skip_ (w1 := ?_) (by rfl) rfl ?_ ?_
       rotate_left
       ·go_simp
        rfl
       refine hK.out _ _ ?_
       clear hK K
       refine done_ (done_of HT_.1 (by kernel_rfl)) ?_
       try go_wp2
       go_meet
       case rel => exact ⟨_, ((-1)), (y295), (t285), (t281), (.slice (some ⟨go103, 0, none⟩) t277.length co14), zJJ, H', ⟨by have := HJ4.1; have := HJ54.1; first | omega | exact Nat.le_refl _⟩, ⟨zR HQ105.out⟩, ⟨by refine zP ?_; refine blk_far ?_ (by have h_ := Kd.R_ne HO_283000.1 BK274.1 (by decide); intro e_; exact h_ (by rw [e_]; rfl)) _; refine zP ?_; exact BK274.1⟩, ⟨by refine zP ?_; refine blk_far ?_ (by have h_ := Kd.R_ne HO_283000.1 BK275.1 (by decide); intro e_; exact h_ (by rw [e_]; rfl)) _; refine zP ?_; exact BK275.1⟩, ⟨by refine zP ?_; refine blk_far ?_ (by have h_ := Kd.R_ne HO_283000.1 BK276.1 (by decide); intro e_; exact h_ (by rw [e_]; rfl)) _; refine zP ?_; exact BK276.1⟩, ⟨by refine zP ?_; refine blk_far ?_ (by have h_ := Kd.R_ne HO_283000.1 BK282.1 (by decide); intro e_; exact h_ (by rw [e_]; rfl)) _; refine zP ?_; exact BK282.1⟩, ⟨zB1⟩⟩
      rw [if_neg c99] at H
      have c99b0 : (x54_54 == 3) = false := beq_eq_false_iff_ne.mpr c99
      by_cases c106 : x54_54 = 4
      ·rw [if_pos c106] at H
       have c106b0 : (x54_54 == 4) = true := beq_iff_eq.mpr c106
       clear c106
       replace H := zIt H
       obtain ⟨c107b0, H⟩ := H
       replace H := zIt H
       obtain ⟨c108b0, H⟩ := H
       obtain ⟨y296, hy296⟩ : ∃ y_ : List Int, y_ = (t277.set (a1_1 : Int).toNat a2) := ⟨_, rfl⟩
       replace H : (spec_Work.j2 kj54 (-1) y296 t285 t281) = some (r1, r2, r3, r4) := by first | (rw [hy296]; with_reducible exact H) | (have H2_ := (Option.bind_some _ _).symm.trans H; rw [hy296]; with_reducible exact H2_) | (have H2_ := (Option.bind_some _ _).symm.trans H; with_reducible exact H2_) | with_reducible exact H | (rw [hy296]; exact H) | exact H
       have Ny296 := zM hy296
       clear hy296
       have H' := zM H
       clear H
       have hcz113 := zc_3 (w := wc) BK282.1
       have hcz116 := zc_5 (w := wc) BK275.1
       have p109 : 0 ≤ (a1_1 : Int) := zA
       have q109 : (a1_1 : Int) < ((t277.length : Int) : Int) := zA
       obtain ⟨go109, co109, eo109, gb109, gl109, cl109, HG109⟩ := Kd.R_form HO_283000.1 (by omega)
       (first | cases eo109 | (injection eo109 with ea_ en_ ec_; (first | subst ea_ | (injection ea_ with ea_; subst ea_)); subst ec_; clear en_))
       have GB109 := zM gb109
       clear gb109 gl109 HG109
       obtain ⟨hx109_0, hf109_0⟩ := Kd.R_celln 0 HO_283000.1 (a1_1 : Int) p109 q109
       replace p109 := eq_true p109
       replace q109 := eq_true q109
       have HP117 := Kd.R_putg HO_283000.1 (a1_1 : Int) a2
       go_wp2_with (first | ((with_reducible refine gate_store (t := 3) (p := 105) rfl ?_); refine store_event (t := 3) (p := 105) (v := ?vo_w118) (w1 := (wc.setCell ⟨go109, (a1_1 : Int).toNat, none⟩ (.int .i64 a2))) ?hg ?ho ?hn ?hr ?_; (case ho => rfl); (case hg => rfl); (case hn => rfl); (case hr => exact zHH); intro w118 hw; have hg : wc.grownBy w118 (some go109) := (by rw [hw]; exact HP117.2); have hp_ : Kd.R (Kd.int .i64) 3 w118 w.heap.size (fun _ => True) (.slice (some ⟨go109, 0, none⟩) t277.length co14) y296 := (by rw [hw, Ny296.1]; exact HP117.1); clear HP117; replace BK274 := zM (zg BK274.1 hg (Kd.R_ne HO_283000.1 BK274.1 (by decide))); replace BK275 := zM (zg BK275.1 hg (Kd.R_ne HO_283000.1 BK275.1 (by decide))); replace BK276 := zM (zg BK276.1 hg (Kd.R_ne HO_283000.1 BK276.1 (by decide))); replace BK282 := zM (zg BK282.1 hg (Kd.R_ne HO_283000.1 BK282.1 (by decide))); replace HO_283000 := zM hp_; replace HB := zM ((by rw [hw]; exact below_set (HB.1) GB109.1 : Below w.heap.size w w118)); clear hg hw hp_))
       go_meet
       case rel => exact ⟨_, ((-1)), (y296), (t285), (t281), (.slice (some ⟨go109, 0, none⟩) t277.length co14), zJJ, H', ⟨by have := HJ4.1; have := HJ54.1; first | omega | exact Nat.le_refl _⟩, ⟨zR HO_283000.1⟩, ⟨zK BK274.1⟩, ⟨zK BK275.1⟩, ⟨zK BK276.1⟩, ⟨zK BK282.1⟩, ⟨zB1⟩⟩
      rw [if_neg c106] at H
      have c106b0 : (x54_54 == 4) = false := beq_eq_false_iff_ne.mpr c106
      by_cases c119 : x54_54 = 5
      ·rw [if_pos c119] at H
       have c119b0 : (x54_54 == 5) = true := beq_iff_eq.mpr c119
       clear c119
       have H' := zM H
       clear H
       go_wp2
       go_meet
       case rel => exact ⟨_, ((rd l0_0 a1_3)), (t277), (t285), (t281), (.slice Ao14 t277.length co14), zJJ, H', ⟨by have := HJ4.1; have := HJ54.1; first | omega | exact Nat.le_refl _⟩, ⟨zR HO_283000.1⟩, ⟨zK BK274.1⟩, ⟨zK BK275.1⟩, ⟨zK BK276.1⟩, ⟨zK BK282.1⟩, ⟨zB1⟩⟩
      rw [if_neg c119] at H
      have c119b0 : (x54_54 == 5) = false := beq_eq_false_iff_ne.mpr c119
      by_cases c120 : x54_54 = 6
      ·rw [if_pos c120] at H
       have c120b0 : (x54_54 == 6) = true := beq_iff_eq.mpr c120
       clear c120
       replace H := zIt H
       obtain ⟨c121b0, H⟩ := H
       replace H := zIt H
       obtain ⟨c122b0, H⟩ := H
       obtain ⟨y297, hy297⟩ : ∃ y_ : List Int, y_ = (t277.set (a1_1 : Int).toNat a2) := ⟨_, rfl⟩
       replace H : ((spec_l9Word.f (wrap64 (a2 + (rd l0_0 a1_3)))).bind fun t298 => (spec_Work.j2 kj54 t298 y297 t285 t281)) = some (r1, r2, r3, r4) := by first | (rw [hy297]; with_reducible exact H) | (have H2_ := (Option.bind_some _ _).symm.trans H; rw [hy297]; with_reducible exact H2_) | (have H2_ := (Option.bind_some _ _).symm.trans H; with_reducible exact H2_) | with_reducible exact H | (rw [hy297]; exact H) | exact H
       have Ny297 := zM hy297
       clear hy297
       replace H := zO H
       obtain ⟨t298, A124, H⟩ := H
       have H' := zM H
       clear H
       have hcz128 := zc_3 (w := wc) BK282.1
       have hcz131 := zc_5 (w := wc) BK275.1
       have p123 : 0 ≤ (a1_1 : Int) := zA
       have q123 : (a1_1 : Int) < ((t277.length : Int) : Int) := zA
       obtain ⟨go123, co123, eo123, gb123, gl123, cl123, HG123⟩ := Kd.R_form HO_283000.1 (by omega)
       (first | cases eo123 | (injection eo123 with ea_ en_ ec_; (first | subst ea_ | (injection ea_ with ea_; subst ea_)); subst ec_; clear en_))
       have GB123 := zM gb123
       clear gb123 gl123 HG123
       obtain ⟨hx123_0, hf123_0⟩ := Kd.R_celln 0 HO_283000.1 (a1_1 : Int) p123 q123
       replace p123 := eq_true p123
       replace q123 := eq_true q123
       have HP132 := Kd.R_putg HO_283000.1 (a1_1 : Int) a2
       go_wp2_with (first | ((with_reducible refine gate_store (t := 3) (p := 116) rfl ?_); refine store_event (t := 3) (p := 116) (v := ?vo_w133) (w1 := (wc.setCell ⟨go123, (a1_1 : Int).toNat, none⟩ (.int .i64 a2))) ?hg ?ho ?hn ?hr ?_; (case ho => rfl); (case hg => rfl); (case hn => rfl); (case hr => exact zHH); intro w133 hw; have hg : wc.grownBy w133 (some go123) := (by rw [hw]; exact HP132.2); have hp_ : Kd.R (Kd.int .i64) 3 w133 w.heap.size (fun _ => True) (.slice (some ⟨go123, 0, none⟩) t277.length co14) y297 := (by rw [hw, Ny297.1]; exact HP132.1); clear HP132; replace BK274 := zM (zg BK274.1 hg (Kd.R_ne HO_283000.1 BK274.1 (by decide))); replace BK275 := zM (zg BK275.1 hg (Kd.R_ne HO_283000.1 BK275.1 (by decide))); replace BK276 := zM (zg BK276.1 hg (Kd.R_ne HO_283000.1 BK276.1 (by decide))); replace BK282 := zM (zg BK282.1 hg (Kd.R_ne HO_283000.1 BK282.1 (by decide))); replace HO_283000 := zM hp_; replace HB := zM ((by rw [hw]; exact below_set (HB.1) GB123.1 : Below w.heap.size w w133)); clear hg hw hp_) | ((with_reducible refine zG Try.func90 120 #[.int .i64 (wrap64 (a2 + (rd l0_0 a1_3)))] ?_); (with_reducible refine (spec_l9Word.calls (wrap64 (a2 + (rd l0_0 a1_3))) t298 _ A124.1).mono ?_); rintro e w' ⟨rfl, ⟨nd, rfl⟩⟩; refine ⟨_, rfl, ?_⟩))
       go_meet
       case rel => exact ⟨_, (t298), (y297), (t285), (t281), (.slice (some ⟨go123, 0, none⟩) t277.length co14), zJJ, H', ⟨by have := HJ4.1; have := HJ54.1; first | omega | exact Nat.le_refl _⟩, ⟨zR HO_283000.1⟩, ⟨zK BK274.1⟩, ⟨zK BK275.1⟩, ⟨zK BK276.1⟩, ⟨zK BK282.1⟩, ⟨zB1⟩⟩
      rw [if_neg c120] at H
      have c120b0 : (x54_54 == 6) = false := beq_eq_false_iff_ne.mpr c120
      by_cases c134 : x54_54 = 7
      ·rw [if_pos c134] at H
       have c134b0 : (x54_54 == 7) = true := beq_iff_eq.mpr c134
       clear c134
       by_cases c135 : (rd l0_0 a1_2) = 0
       rotate_left
       ·rw [if_neg c135] at H
        have c135b0 : ((rd l0_0 a1_2) == 0) = false := beq_eq_false_iff_ne.mpr c135
        have H' := zM H
        clear H
        go_wp2
        go_meet
        case rel => exact ⟨_, ((-1)), (t277), (t285), (t281), (.slice Ao14 t277.length co14), zJJ, H', ⟨by have := HJ4.1; have := HJ54.1; first | omega | exact Nat.le_refl _⟩, ⟨zR HO_283000.1⟩, ⟨zK BK274.1⟩, ⟨zK BK275.1⟩, ⟨zK BK276.1⟩, ⟨zK BK282.1⟩, ⟨zB1⟩⟩
       rw [if_pos c135] at H
       have c135b0 : ((rd l0_0 a1_2) == 0) = true := beq_iff_eq.mpr c135
       clear c135
       replace H := zO H
       obtain ⟨t299, A136, H⟩ := H
       have H' := zM H
       clear H
       have hcz140 := zc_5 (w := wc) BK275.1
       go_wp2_with (first | ((with_reducible refine zG Try.func89 127 #[.int .i64 a1_4] ?_); (with_reducible refine (spec_l9Address.calls a1_4 t299 _ A136.1).mono ?_); rintro e w' ⟨rfl, ⟨nd, rfl⟩⟩; refine ⟨_, rfl, ?_⟩; (try (rw [drewN_self wc]; generalize hq_ : World.drewN wc _ = wc; have n0_ : Aside0 (Kd.R (Kd.int .i64) 3 wc w.heap.size (fun _ => True) (.slice Ao14 t277.length co14) t277) := ⟨by rw [← hq_]; exact (zR HO_283000.1)⟩; have n1_ : Aside0 (wc.heap[gb274]? = some (.cells #[.slice (some ad287) l0_0.length c0_0, .int .i64 a0_1, .int .i64 a0_2] 49 (0, 0))) := ⟨by rw [← hq_]; exact (zK BK274.1)⟩; have n2_ : Aside0 (wc.heap[gb275]? = some (.cells #[.int .i64 a1_0, .int .i64 a1_1, .int .i64 a1_2, .int .i64 a1_3, .int .i64 a1_4] 71 (0, 0))) := ⟨by rw [← hq_]; exact (zK BK275.1)⟩; have n3_ : Aside0 (wc.heap[gb276]? = some (.cells #[.slice none 0 0, .int .i64 0, .int .i64 0] 49 (0, 0))) := ⟨by rw [← hq_]; exact (zK BK276.1)⟩; have n4_ : Aside0 (wc.heap[gb282]? = some (.cells #[.slice Ao14 t277.length co14, .int .i64 t285, .int .i64 t281] 49 (0, 0))) := ⟨by rw [← hq_]; exact (zK BK282.1)⟩; have n5_ : Aside0 (Below w.heap.size w wc) := ⟨by rw [← hq_]; exact zB1⟩; clear HO_283000 BK274 BK276 BK282 HB hq_; try clear BK275; have HO_283000 := n0_; have BK274 := n1_; have BK275 := n2_; have BK276 := n3_; have BK282 := n4_; have HB := n5_; clear n0_ n1_ n2_ n3_ n4_ n5_)); have hcz143 := zc_3 (w := wc) BK282.1))
       go_meet
       case rel => exact ⟨_, ((-1)), (t277), (t299), (t281), (.slice Ao14 t277.length co14), zJJ, H', ⟨by have := HJ4.1; have := HJ54.1; first | omega | exact Nat.le_refl _⟩, ⟨by refine zrR ?_; exact Kd.R_mono (Kd.R_far (p := ⟨gb282, 1, none⟩) (Kd.R_types HO_283000.1 BK282.1 (by decide)) (fun _ hk => hk.2) (.int .i64 t299)) (fun _ hk => trivial)⟩, ⟨by refine zP ?_; refine blk_far ?_ NB274_282.1 _; refine zP ?_; exact BK274.1⟩, ⟨by refine zP ?_; refine blk_far ?_ NB275_282.1 _; refine zP ?_; exact BK275.1⟩, ⟨by refine zP ?_; refine blk_far ?_ NB276_282.1 _; refine zP ?_; exact BK276.1⟩, ⟨by refine zP ?_; refine blk_put (cs := #[.slice Ao14 t277.length co14, .int .i64 t285, .int .i64 t281]) ?_ 1 _ rfl; refine zP ?_; exact BK282.1⟩, ⟨zB1⟩⟩
      rw [if_neg c134] at H
      have c134b0 : (x54_54 == 7) = false := beq_eq_false_iff_ne.mpr c134
      by_cases c144 : x54_54 = 8
      rotate_left
      ·rw [if_neg c144] at H
       have c144b0 : (x54_54 == 8) = false := beq_eq_false_iff_ne.mpr c144
       by_cases c153 : x54_54 = 9
       rotate_left
       ·rw [if_neg c153] at H
        have c153b0 : (x54_54 == 9) = false := beq_eq_false_iff_ne.mpr c153
        have H' := zM H
        clear H
        go_wp2
        go_meet
        case rel => exact ⟨_, ((-1)), (t277), (t285), (t281), (.slice Ao14 t277.length co14), zJJ, H', ⟨by have := HJ4.1; have := HJ54.1; first | omega | exact Nat.le_refl _⟩, ⟨zR HO_283000.1⟩, ⟨zK BK274.1⟩, ⟨zK BK275.1⟩, ⟨zK BK276.1⟩, ⟨zK BK282.1⟩, ⟨zB1⟩⟩
       rw [if_pos c153] at H
       have c153b0 : (x54_54 == 9) = true := beq_iff_eq.mpr c153
       clear c153
       have H' := zM H
       clear H
       have hcz157 := zc_3 (w := wc) BK274.1
       have hcz160 := zc_3 (w := wc) BK282.1
       go_wp2
       go_meet
       case rel => exact ⟨_, ((-1)), (t277), (a0_1), (1), (.slice Ao14 t277.length co14), zJJ, H', ⟨by have := HJ4.1; have := HJ54.1; first | omega | exact Nat.le_refl _⟩, ⟨by refine zrR ?_; exact Kd.R_mono (Kd.R_far (p := ⟨gb282, 2, none⟩) (Kd.R_far (p := ⟨gb282, 1, none⟩) (Kd.R_types HO_283000.1 BK282.1 (by decide)) (fun _ hk => hk.2) (.int .i64 a0_1)) (fun _ hk => hk.2) (.int .i64 1)) (fun _ hk => trivial)⟩, ⟨by refine zP ?_; refine blk_far ?_ NB274_282.1 _; refine zP ?_; refine blk_far ?_ NB274_282.1 _; refine zP ?_; exact BK274.1⟩, ⟨by refine zP ?_; refine blk_far ?_ NB275_282.1 _; refine zP ?_; refine blk_far ?_ NB275_282.1 _; refine zP ?_; exact BK275.1⟩, ⟨by refine zP ?_; refine blk_far ?_ NB276_282.1 _; refine zP ?_; refine blk_far ?_ NB276_282.1 _; refine zP ?_; exact BK276.1⟩, ⟨by refine zP ?_; refine blk_put (cs := #[.slice Ao14 t277.length co14, .int .i64 a0_1, .int .i64 t281]) ?_ 2 _ rfl; refine zP ?_; refine blk_put (cs := #[.slice Ao14 t277.length co14, .int .i64 t285, .int .i64 t281]) ?_ 1 _ rfl; refine zP ?_; exact BK282.1⟩, ⟨zB1⟩⟩
      rw [if_pos c144] at H
      have c144b0 : (x54_54 == 8) = true := beq_iff_eq.mpr c144
      clear c144
      replace H := zO H
      obtain ⟨t300, A145, H⟩ := H
      have H' := zM H
      clear H
      have hcz149 := zc_5 (w := wc) BK275.1
      go_wp2_with (first | ((with_reducible refine zG Try.func89 133 #[.int .i64 a1_4] ?_); (with_reducible refine (spec_l9Address.calls a1_4 t300 _ A145.1).mono ?_); rintro e w' ⟨rfl, ⟨nd, rfl⟩⟩; refine ⟨_, rfl, ?_⟩; (try (rw [drewN_self wc]; generalize hq_ : World.drewN wc _ = wc; have n0_ : Aside0 (Kd.R (Kd.int .i64) 3 wc w.heap.size (fun _ => True) (.slice Ao14 t277.length co14) t277) := ⟨by rw [← hq_]; exact (zR HO_283000.1)⟩; have n1_ : Aside0 (wc.heap[gb274]? = some (.cells #[.slice (some ad287) l0_0.length c0_0, .int .i64 a0_1, .int .i64 a0_2] 49 (0, 0))) := ⟨by rw [← hq_]; exact (zK BK274.1)⟩; have n2_ : Aside0 (wc.heap[gb275]? = some (.cells #[.int .i64 a1_0, .int .i64 a1_1, .int .i64 a1_2, .int .i64 a1_3, .int .i64 a1_4] 71 (0, 0))) := ⟨by rw [← hq_]; exact (zK BK275.1)⟩; have n3_ : Aside0 (wc.heap[gb276]? = some (.cells #[.slice none 0 0, .int .i64 0, .int .i64 0] 49 (0, 0))) := ⟨by rw [← hq_]; exact (zK BK276.1)⟩; have n4_ : Aside0 (wc.heap[gb282]? = some (.cells #[.slice Ao14 t277.length co14, .int .i64 t285, .int .i64 t281] 49 (0, 0))) := ⟨by rw [← hq_]; exact (zK BK282.1)⟩; have n5_ : Aside0 (Below w.heap.size w wc) := ⟨by rw [← hq_]; exact zB1⟩; clear HO_283000 BK274 BK276 BK282 HB hq_; try clear BK275; have HO_283000 := n0_; have BK274 := n1_; have BK275 := n2_; have BK276 := n3_; have BK282 := n4_; have HB := n5_; clear n0_ n1_ n2_ n3_ n4_ n5_)); have hcz152 := zc_3 (w := wc) BK282.1))
      go_meet
      case rel => exact ⟨_, ((-1)), (t277), (t300), (t281), (.slice Ao14 t277.length co14), zJJ, H', ⟨by have := HJ4.1; have := HJ54.1; first | omega | exact Nat.le_refl _⟩, ⟨by refine zrR ?_; exact Kd.R_mono (Kd.R_far (p := ⟨gb282, 1, none⟩) (Kd.R_types HO_283000.1 BK282.1 (by decide)) (fun _ hk => hk.2) (.int .i64 t300)) (fun _ hk => trivial)⟩, ⟨by refine zP ?_; refine blk_far ?_ NB274_282.1 _; refine zP ?_; exact BK274.1⟩, ⟨by refine zP ?_; refine blk_far ?_ NB275_282.1 _; refine zP ?_; exact BK275.1⟩, ⟨by refine zP ?_; refine blk_far ?_ NB276_282.1 _; refine zP ?_; exact BK276.1⟩, ⟨by refine zP ?_; refine blk_put (cs := #[.slice Ao14 t277.length co14, .int .i64 t285, .int .i64 t281]) ?_ 1 _ rfl; refine zP ?_; exact BK282.1⟩, ⟨zB1⟩⟩
     case rest =>
      clear HC71
      try clear c1
      try clear p1
      try clear q1
      try clear hx1
      try clear p2
      try clear p6
      try clear c8
      try clear c9
      try clear p9
      try clear q9
      try clear hx9
      try clear hf9
      try clear c10
      try clear p10
      try clear q10
      try clear hx10
      try clear hf10
      try clear c11
      try clear c12
      try clear p12
      try clear q12
      try clear hx12
      try clear hf12
      try clear c13
      try clear c14
      try clear c15
      try clear p64
      try clear c85
      try clear c85b0
      try clear c85b1
      try clear c87
      try clear c88
      try clear c89
      try clear c90
      try clear c92
      try clear c92b0
      try clear c92b1
      try clear c94
      try clear c94b0
      try clear c95
      try clear c95b0
      try clear p96
      try clear q96
      try clear hx96
      try clear hf96
      try clear c99
      try clear c99b0
      try clear c99b1
      try clear c101
      try clear c101b0
      try clear c102
      try clear c102b0
      try clear p103
      try clear q103
      try clear hx103
      try clear hf103
      try clear c106
      try clear c106b0
      try clear c106b1
      try clear c107
      try clear c107b0
      try clear c108
      try clear c108b0
      try clear p109
      try clear q109
      try clear hx109
      try clear hf109
      try clear c110
      try clear c111
      try clear c112
      try clear c114
      try clear c115
      try clear c119
      try clear c119b0
      try clear c119b1
      try clear c120
      try clear c120b0
      try clear c120b1
      try clear c121
      try clear c121b0
      try clear c122
      try clear c122b0
      try clear p123
      try clear q123
      try clear hx123
      try clear hf123
      try clear c125
      try clear c126
      try clear c127
      try clear c129
      try clear c130
      try clear c134
      try clear c134b0
      try clear c134b1
      try clear c135
      try clear c135b0
      try clear c135b1
      try clear c137
      try clear c138
      try clear c139
      try clear c141
      try clear c142
      try clear c144
      try clear c144b0
      try clear c144b1
      try clear c146
      try clear c147
      try clear c148
      try clear c150
      try clear c151
      try clear c153
      try clear c153b0
      try clear c153b1
      try clear c154
      try clear c155
      try clear c156
      try clear c158
      try clear c159
      try clear hcz113
      try clear hcz116
      try clear hcz128
      try clear hcz131
      try clear hcz140
      try clear hcz143
      try clear hcz149
      try clear hcz152
      try clear hcz157
      try clear hcz160
      try clear hx103_0
      try clear hx109_0
      try clear hx123_0
      try clear hx96_0
      try clear p103
      try clear p109
      try clear p123
      try clear p96
      try clear q103
      try clear q109
      try clear q123
      try clear q96
      obtain ⟨kq, x9_70, x283000_70, x283001_70, x283002_70, u283000, rfl, HA, HJ70, HO_283000, BK274, BK275, BK276, BK282, HB⟩ := hcut
      cases kq with
      | zero => exact absurd HA.1 (by simp [spec_Work.j2])
      | succ kj70 =>
       have H := HA.1
       clear HA
       simp only [spec_Work.j2] at H
       simp only [Option.some.injEq, Prod.mk.injEq] at H
       obtain ⟨rfl, rfl, rfl, rfl⟩ := H
       have hcz164 := zc_3 (w := wc) BK282.1
       obtain ⟨Ao165, co165, eo165⟩ := Kd.R_slice HO_283000.1
       subst eo165
       have hcz168 := zc_3 (w := wc) BK276.1
       go_wp2
       refine bodyPost_ret (results_ct rfl _ _ gb276 49 #[.slice Ao165 x283000_70.length co165, .int .i64 x283001_70, .int .i64 x283002_70] (0, 0) _ rfl (by exact zp3 (zK BK276.1)) Try.underlying49 rfl (by kernel_rfl)) rfl ?_
       exact ⟨_, zE, by refine zrR ?_; exact Kd.R_mono (Kd.R_far (p := ⟨gb276, 2, none⟩) (Kd.R_far (p := ⟨gb276, 1, none⟩) (Kd.R_far (p := ⟨gb276, 0, none⟩) (Kd.R_types HO_283000.1 BK276.1 (by decide)) (fun _ hk => hk.2) (.slice Ao165 x283000_70.length co165)) (fun _ hk => hk.2) (.int .i64 x283001_70)) (fun _ hk => hk.2) (.int .i64 x283002_70)) (fun _ hk => trivial), zB1⟩

end Go.Proofs.Ytgbjengnkbomoaa.PFnKnows
