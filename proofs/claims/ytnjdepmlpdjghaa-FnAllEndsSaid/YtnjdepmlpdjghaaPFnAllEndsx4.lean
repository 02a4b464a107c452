-- made by wip/tools/myprint.py out of the seat's translation
import Derived.Test.YtnjdepmlpdjghaaPFnAllEndsx0
import Derived.Test.YtnjdepmlpdjghaaPFnAllEndsx2
import Derived.Test.YtnjdepmlpdjghaaPFnAllEndsx3
namespace Go.Proofs.Ytnjdepmlpdjghaa.PFnAllEnds
open Go.RowKit Go.Proofs.YtnjdepmlpdjghaaW.PrintWords Go.Proofs.YtnjdepmlpdjghaaW.PrintLast Go.Proofs.YtnjdepmlpdjghaaW.PrintMore
attribute [local go_sem] max2_int min2_int max_two min_two max_three min_three max_four min_four   -- for this text's walks alone
set_option linter.unusedVariables false
set_option linter.unusedSimpArgs false
set_option maxHeartbeats 8000000
set_option maxRecDepth 100000
abbrev zq4_0 : Array Bool := #[false, false, false, false, false, false, false, false, false, false]
abbrev zq4_10 : Array Bool := #[true, true, true, true, true, true, true, true, true, true]

/-! ### spec_Work: function 107 -/
mutual
def spec_Work.j0 : Nat → Int → Bool → List Int → Int → Int → Int → Int → Int → Int → Int → List Int → Int → Int → Option (List Int × Int × Int × Int)
 | 0, _, _, _, _, _, _, _, _, _, _, _, _, _ => none
 | k + 1, x2, x26, x144000, x144001, x144002, x145000, x145001, x145002, x145003, x145004, x152000, x152001, x152002 => if x26 = true then (some (x152000, x152001, x152002, (-1))) else ((spec_l9Address.f (wrap64 (x144001 + 1))).bind fun t154 => ((spec_InsOk.f x145000 x145001 x145002 x145003 x145004).bind fun t155 => (if t155 = true then (if 0 ≤ x145002 then (if x145002 < (x144000.length : Int) then (if 0 ≤ x145003 then (if x145003 < (x144000.length : Int) then (spec_Work.j1 k x2 (-1) (rd x144000 x145002) (rd x144000 x145003) x145000 x144000 x144001 x144002 x145000 x145001 x145002 x145003 x145004 x152000 t154 x152002) else (none)) else (none)) else (none)) else (none)) else (some (x152000, x144001, 2, (-1))))))
def spec_Work.j1 : Nat → Int → Int → Int → Int → Int → List Int → Int → Int → Int → Int → Int → Int → Int → List Int → Int → Int → Option (List Int × Int × Int × Int)
 | 0, _, _, _, _, _, _, _, _, _, _, _, _, _, _, _, _ => none
 | k + 1, x2, x9, x10, x11, x54, x144000, x144001, x144002, x145000, x145001, x145002, x145003, x145004, x152000, x152001, x152002 => if x54 = 1 then (if 0 ≤ x145001 then (if x145001 < (x152000.length : Int) then (spec_Work.j2 k x9 (x152000.set (x145001 : Int).toNat x145004) x152001 x152002) else (none)) else (none)) else (if x54 = 2 then ((spec_l9Word.f (wrap64 (x10 + x11))).bind fun t159 => (if 0 ≤ x145001 then (if x145001 < (x152000.length : Int) then (spec_Work.j2 k x9 (x152000.set (x145001 : Int).toNat t159) x152001 x152002) else (none)) else (none))) else (if x54 = 10 then ((spec_l9Word.f (wrap64 (x10 - x11))).bind fun t161 => (if 0 ≤ x145001 then (if x145001 < (x152000.length : Int) then (spec_Work.j2 k x9 (x152000.set (x145001 : Int).toNat t161) x152001 x152002) else (none)) else (none))) else (if x54 = 3 then ((spec_l9Word.f (wrap64 (x10 + x145004))).bind fun t163 => (if 0 ≤ x145001 then (if x145001 < (x152000.length : Int) then (spec_Work.j2 k x9 (x152000.set (x145001 : Int).toNat t163) x152001 x152002) else (none)) else (none))) else (if x54 = 4 then (if 0 ≤ x145001 then (if x145001 < (x152000.length : Int) then (spec_Work.j2 k x9 (x152000.set (x145001 : Int).toNat x2) x152001 x152002) else (none)) else (none)) else (if x54 = 5 then (spec_Work.j2 k x11 x152000 x152001 x152002) else (if x54 = 6 then (if 0 ≤ x145001 then (if x145001 < (x152000.length : Int) then ((spec_l9Word.f (wrap64 (x2 + x11))).bind fun t167 => (spec_Work.j2 k t167 (x152000.set (x145001 : Int).toNat x2) x152001 x152002)) else (none)) else (none)) else (if x54 = 7 then (if x10 = 0 then ((spec_l9Address.f x145004).bind fun t168 => (spec_Work.j2 k x9 x152000 t168 x152002)) else (spec_Work.j2 k x9 x152000 x152001 x152002)) else (if x54 = 8 then ((spec_l9Address.f x145004).bind fun t169 => (spec_Work.j2 k x9 x152000 t169 x152002)) else (if x54 = 9 then (spec_Work.j2 k x9 x152000 x144001 1) else (spec_Work.j2 k x9 x152000 x152001 x152002))))))))))
def spec_Work.j2 : Nat → Int → List Int → Int → Int → Option (List Int × Int × Int × Int)
 | 0, _, _, _, _ => none
 | k + 1, x9, x152000, x152001, x152002 => some (x152000, x152001, x152002, x9)
end
def spec_Work.f (k : Nat) (l0_0 : List Int) (a0_1 : Int) (a0_2 : Int) (a1_0 : Int) (a1_1 : Int) (a1_2 : Int) (a1_3 : Int) (a1_4 : Int) (a2 : Int) : Option (List Int × Int × Int × Int) := (spec_l9Copy.f l0_0 a0_1 a0_2).bind fun bt146 => ((spec_HartOk.f k l0_0 a0_1 a0_2).bind fun t152 => (if t152 = true then (if a0_2 = 0 then ((spec_l1In.f a2 0 65535).bind fun t153 => (spec_Work.j0 k a2 (!t153) l0_0 a0_1 a0_2 a1_0 a1_1 a1_2 a1_3 a1_4 bt146.1 bt146.2.1 bt146.2.2)) else (spec_Work.j0 k a2 true l0_0 a0_1 a0_2 a1_0 a1_1 a1_2 a1_3 a1_4 bt146.1 bt146.2.1 bt146.2.2)) else (spec_Work.j0 k a2 true l0_0 a0_1 a0_2 a1_0 a1_1 a1_2 a1_3 a1_4 bt146.1 bt146.2.1 bt146.2.2)))
theorem spec_Work.mono_l : ∀ k, (∀ y0 y1 y2 y3 y4 y5 y6 y7 y8 y9 y10 y11 y12, LeO (spec_Work.j0 k y0 y1 y2 y3 y4 y5 y6 y7 y8 y9 y10 y11 y12) (spec_Work.j0 (k + 1) y0 y1 y2 y3 y4 y5 y6 y7 y8 y9 y10 y11 y12)) ∧ (∀ y0 y1 y2 y3 y4 y5 y6 y7 y8 y9 y10 y11 y12 y13 y14 y15, LeO (spec_Work.j1 k y0 y1 y2 y3 y4 y5 y6 y7 y8 y9 y10 y11 y12 y13 y14 y15) (spec_Work.j1 (k + 1) y0 y1 y2 y3 y4 y5 y6 y7 y8 y9 y10 y11 y12 y13 y14 y15)) ∧ (∀ y0 y1 y2 y3, LeO (spec_Work.j2 k y0 y1 y2 y3) (spec_Work.j2 (k + 1) y0 y1 y2 y3))
 | 0 => ⟨fun _ _ _ _ _ _ _ _ _ _ _ _ _ r h => by simp [spec_Work.j0] at h, fun _ _ _ _ _ _ _ _ _ _ _ _ _ _ _ _ r h => by simp [spec_Work.j1] at h, fun _ _ _ _ r h => by simp [spec_Work.j2] at h⟩
 | k + 1 => by
  obtain ⟨ih0, ih1, ih2⟩ := spec_Work.mono_l k
  refine ⟨?_, ?_, ?_⟩
  ·intros
   unfold spec_Work.j0
   have mo0 := @spec_HartOk.mono
   exact zL
  ·intros
   unfold spec_Work.j1
   have mo0 := @spec_HartOk.mono
   exact zL
  ·intros
   unfold spec_Work.j2
   have mo0 := @spec_HartOk.mono
   exact zL
theorem spec_Work.mono : ∀ a0 a1 a2 a3 a4 a5 a6 a7 a8 k, LeO (spec_Work.f k a0 a1 a2 a3 a4 a5 a6 a7 a8) (spec_Work.f (k + 1) a0 a1 a2 a3 a4 a5 a6 a7 a8) := by
 intro a0 a1 a2 a3 a4 a5 a6 a7 a8 k
 obtain ⟨ih0, ih1, ih2⟩ := spec_Work.mono_l k
 unfold spec_Work.f
 have mo0 := @spec_HartOk.mono
 exact zL
def spec_Work.T10 : Bool × List (List Nat × List Nat) := (true, [([], []), ([0], [0]), ([], []), ([2], [2]), ([1, 3], [1, 3]), ([4], [4]), ([], []), ([6], [6]), ([], []), ([8], [8]), ([7, 9], [7, 9]), ([10], [10]), ([5, 0, 1, 2, 3, 4, 5], [5]), ([11, 12, 0, 1, 2, 3, 4, 5, 6, 7, 8, 9, 10, 11, 12], [11])])
def spec_Work.B10 : List Nat := [0, 1, 0, 4, 15, 31, 0, 64, 0, 256, 960, 1984, 63, 8191]
theorem spec_Work.tab10 : rtab .any (opsOf Try.f107 10) = spec_Work.T10 := by kernel_rfl
theorem spec_Work.bits10 : waitsOk spec_Work.T10.2 spec_Work.B10 = true := by kernel_rfl
def spec_Work.T15 : Bool × List (List Nat × List Nat) := (true, [([], []), ([0], [0]), ([], []), ([2], [2]), ([], []), ([], []), ([4, 5], [4, 5]), ([6], [6]), ([1, 3, 0, 1, 2, 3, 4, 5, 6, 7], [1, 3]), ([8, 7, 7, 0, 1, 2, 3, 4, 5, 6, 7], [7, 8])])
def spec_Work.B15 : List Nat := [0, 1, 0, 4, 0, 0, 48, 112, 255, 511]
theorem spec_Work.tab15 : rtab .any (opsOf Try.f107 15) = spec_Work.T15 := by kernel_rfl
theorem spec_Work.bits15 : waitsOk spec_Work.T15.2 spec_Work.B15 = true := by kernel_rfl
def spec_Work.T17 : Bool × List (List Nat × List Nat) := (true, [([], []), ([0], [0]), ([], []), ([2], [2]), ([], []), ([], []), ([4, 5], [4, 5]), ([6], [6]), ([1, 3, 0, 1, 2, 3, 4, 5, 6, 7], [1, 3]), ([8, 7, 7, 0, 1, 2, 3, 4, 5, 6, 7], [7, 8])])
def spec_Work.B17 : List Nat := [0, 1, 0, 4, 0, 0, 48, 112, 255, 511]
theorem spec_Work.tab17 : rtab .any (opsOf Try.f107 17) = spec_Work.T17 := by kernel_rfl
theorem spec_Work.bits17 : waitsOk spec_Work.T17.2 spec_Work.B17 = true := by kernel_rfl
def spec_Work.T19 : Bool × List (List Nat × List Nat) := (true, [([], []), ([0], [0]), ([], []), ([2], [2]), ([], []), ([], []), ([5], [5]), ([4, 6], [4, 6]), ([7], [7]), ([1, 3, 0, 1, 2, 3, 4, 5, 6, 7, 8], [1, 3]), ([9, 8, 8, 0, 1, 2, 3, 4, 5, 6, 7, 8], [8, 9])])
def spec_Work.B19 : List Nat := [0, 1, 0, 4, 0, 0, 32, 112, 240, 511, 1023]
theorem spec_Work.tab19 : rtab .any (opsOf Try.f107 19) = spec_Work.T19 := by kernel_rfl
theorem spec_Work.bits19 : waitsOk spec_Work.T19.2 spec_Work.B19 = true := by kernel_rfl
theorem spec_Work.calls (k : Nat) (A0_0 : Option Addr) (c0_0 : Nat) (l0_0 : List Int) (a0_1 : Int) (a0_2 : Int) (a1_0 : Int) (a1_1 : Int) (a1_2 : Int) (a1_3 : Int) (a1_4 : Int) (a2 : Int) (r1 : List Int) (r2 : Int) (r3 : Int) (r4 : Int) (w : World) (hr0_0 : Kd.C (Kd.int .i64) w A0_0 l0_0.length l0_0) (hc0_0 : l0_0.length ≤ c0_0) (h : spec_Work.f k l0_0 a0_1 a0_2 a1_0 a1_1 a1_2 a1_3 a1_4 a2 = some (r1, r2, r3, r4)) :
  Calls Try.prog 107 #[.agg #[.slice A0_0 l0_0.length c0_0, .int .i64 a0_1, .int .i64 a0_2], .agg #[.int .i64 a1_0, .int .i64 a1_1, .int .i64 a1_2, .int .i64 a1_3, .int .i64 a1_4], .int .i64 a2] w fun e w' => ∃ v0_ : Value, e = .returned (.tuple #[.agg #[v0_, .int .i64 r2, .int .i64 r3], .int .i64 r4]) ∧ Kd.R (Kd.int .i64) 3 w' w.heap.size (fun _ => True) v0_ r1 ∧ Below w.heap.size w w' := by
 have hu29 := Try.underlying29
 have hu59 := Try.underlying59
 have HR0_0 := zM hr0_0
 have HC0_0 := zM hc0_0
 clear hr0_0 hc0_0
 have HB := zM (Below.refl w.heap.size w)
 unfold spec_Work.f at h
 have H := h
 clear h
 replace H := zO H
 obtain ⟨⟨t146, t149, t150⟩, A4, H⟩ := H
 try dsimp only at H
 have HC5 := zM H
 clear H
 go_enter Try.func107, Try.ntmps107
 go_upto_region 2 with (first | ((with_reducible refine zBx 3 29 #[.slice A0_0 l0_0.length c0_0, .int .i64 a0_1, .int .i64 a0_2] ?_); intro gb143 hg w6 hbox hb; have BK143 := zM hbox; have GW143 := zM (zW hg (below_size zB0)); have GE143 := zM (zW hg (below_size zB0)); replace HB := zM (below_step zB0 hb); clear hb hbox hg) | ((with_reducible refine zBx 4 59 #[.int .i64 a1_0, .int .i64 a1_1, .int .i64 a1_2, .int .i64 a1_3, .int .i64 a1_4] ?_); intro gb144 hg w7 hbox hb; have BK144 := zM hbox; have GW144 := zM (zW hg (below_size zB0)); have GE144 := zM (zW hg (below_size zB0)); replace HB := zM (below_step zB0 hb); have NB143_144 := zM ((zn BK143.1 hg : gb143 ≠ gb144)); have NB144_143 := zM ((zm BK143.1 hg : gb144 ≠ gb143)); replace BK143 := zM (zb BK143.1 hb); clear hb hbox hg) | ((with_reducible refine zBx 6 29 #[.slice none 0 0, .int .i64 0, .int .i64 0] ?_); intro gb145 hg w8 hbox hb; have BK145 := zM hbox; have GW145 := zM (zW hg (below_size zB0)); have GE145 := zM (zW hg (below_size zB0)); replace HB := zM (below_step zB0 hb); have NB143_145 := zM ((zn BK143.1 hg : gb143 ≠ gb145)); have NB145_143 := zM ((zm BK143.1 hg : gb145 ≠ gb143)); replace BK143 := zM (zb BK143.1 hb); have NB144_145 := zM ((zn BK144.1 hg : gb144 ≠ gb145)); have NB145_144 := zM ((zm BK144.1 hg : gb145 ≠ gb144)); replace BK144 := zM (zb BK144.1 hb); clear hb hbox hg; have hnb9 := NB143_144.1; have hnc9 := NB144_143.1; have hnb10 := NB143_145.1; have hnc10 := NB145_143.1; have hcz11 := zc_3 (w := w8) BK143.1) | ((with_reducible refine zG Try.func104 13 #[.agg #[.slice A0_0 l0_0.length c0_0, .int .i64 a0_1, .int .i64 a0_2]] ?_); (with_reducible refine (spec_l9Copy.calls _ _ l0_0 a0_1 a0_2 t146 t149 t150 _ ?side1 ?side2 A4.1).mono ?_); (case side1 => exact zC (Kd.C_below HR0_0.1 HB.1)); (case side2 => exact HC0_0.1); rintro e w12 ⟨v147, rfl, ho0, hb⟩; refine ⟨_, rfl, ?_⟩; have HO148 := zM (Kd.R_lower ho0 (below_size zB0)); replace BK143 := zM (zb BK143.1 hb); replace BK144 := zM (zb BK144.1 hb); replace BK145 := zM (zb BK145.1 hb); replace HB := zM (below_step zB0 hb); clear hb ho0) | ((with_reducible refine zBx 8 29 #[.slice none 0 0, .int .i64 0, .int .i64 0] ?_); intro gb151 hg w13 hbox hb; replace HO148 := zM (Kd.R_below (zR HO148.1) hb); have BK151 := zM hbox; have GW151 := zM (zW hg (below_size zB0)); have GE151 := zM (zW hg (below_size zB0)); replace HB := zM (below_step zB0 hb); have NB143_151 := zM ((zn BK143.1 hg : gb143 ≠ gb151)); have NB151_143 := zM ((zm BK143.1 hg : gb151 ≠ gb143)); replace BK143 := zM (zb BK143.1 hb); have NB144_151 := zM ((zn BK144.1 hg : gb144 ≠ gb151)); have NB151_144 := zM ((zm BK144.1 hg : gb151 ≠ gb144)); replace BK144 := zM (zb BK144.1 hb); have NB145_151 := zM ((zn BK145.1 hg : gb145 ≠ gb151)); have NB151_145 := zM ((zm BK145.1 hg : gb151 ≠ gb145)); replace BK145 := zM (zb BK145.1 hb); clear hb hbox hg; obtain ⟨Ao14, co14, eo14⟩ := Kd.R_slice HO148.1; subst eo14; have hnb15 := NB151_143.1; have hnc15 := NB143_151.1; have hnb16 := NB151_144.1; have hnc16 := NB144_151.1; have hnb17 := NB151_145.1; have hnc17 := NB145_151.1; have hcz18 := zc_3 (w := w13) BK151.1))
 (try simp only [Act.put, List.setIfInBounds_toArray, List.set_cons_zero, List.set_cons_succ])
 go_cut [26] (fun v26 wc => ∃ (kq : Nat) (x26_4 : Bool), v26 = .bool x26_4 ∧ Aside0 (spec_Work.j0 kq a2 x26_4 l0_0 a0_1 a0_2 a1_0 a1_1 a1_2 a1_3 a1_4 t146 t149 t150 = some (r1, r2, r3, r4)) ∧ Aside0 (kq ≤ k) ∧ Aside0 (Kd.R (Kd.int .i64) 3 wc w.heap.size (fun _ => True) (.slice Ao14 t146.length co14) t146) ∧ Aside0 (wc.heap[gb143]? = some (.cells #[(.slice A0_0 l0_0.length c0_0), .int .i64 a0_1, .int .i64 a0_2] 29 (0, 0))) ∧ Aside0 (wc.heap[gb144]? = some (.cells #[.int .i64 a1_0, .int .i64 a1_1, .int .i64 a1_2, .int .i64 a1_3, .int .i64 a1_4] 59 (0, 0))) ∧ Aside0 (wc.heap[gb145]? = some (.cells #[(.slice none 0 0), .int .i64 0, .int .i64 0] 29 (0, 0))) ∧ Aside0 (wc.heap[gb151]? = some (.cells #[(.slice Ao14 t146.length co14), .int .i64 t149, .int .i64 t150] 29 (0, 0))) ∧ Aside0 (Below w.heap.size w wc))
 case first =>
  have H := HC5.1
  clear HC5
  replace H := zO H
  obtain ⟨t152, A19, H⟩ := H
  by_cases c20 : t152 = true
  rotate_left
  ·replace c20 := Bool.eq_false_iff.mpr c20
   subst c20
   rw [if_neg zF] at H
   have H' := zM H
   clear H
   have hnb35 := NB143_144.1
   have hnc35 := NB144_143.1
   have hnb36 := NB143_145.1
   have hnc36 := NB145_143.1
   have hnb37 := NB143_151.1
   have hnc37 := NB151_143.1
   have hcz38 := zc_3 (w := w13) BK143.1
   go_wp2_with (first | ((with_reducible refine zG Try.func52 15 #[.agg #[.slice A0_0 l0_0.length c0_0, .int .i64 a0_1, .int .i64 a0_2]] ?_); (with_reducible refine (spec_HartOk.calls k _ _ l0_0 a0_1 a0_2 false _ ?side1 ?side2 A19.1).mono ?_); (case side1 => exact Kd.C_below HR0_0.1 zB0); (case side2 => exact HC0_0.1); rintro e w39 ⟨rfl, hb⟩; refine ⟨_, rfl, ?_⟩; replace HO148 := zM (Kd.R_below (by refine zrR ?_; exact (Kd.R_mono (zfR (zfR (zfR (Kd.R_types HO148.1 BK151.1 (by decide))))) (fun _ h_ => h_.1))) hb); replace BK143 := zM (zf BK143.1 hb); replace BK144 := zM (zf BK144.1 hb); replace BK145 := zM (zf BK145.1 hb); replace BK151 := zM (blk_below (g := gb151) (o := .cells #[.slice Ao14 t146.length co14, .int .i64 t149, .int .i64 t150] 29 (0, 0)) (by exact zp3 (zK BK151.1)) hb); replace HB := zM (below_step zB0 hb); clear hb))
   go_meet
   case rel => exact ⟨_, (true), zJJ, H', ⟨by first | omega | exact Nat.le_refl _⟩, ⟨zR HO148.1⟩, ⟨zK BK143.1⟩, ⟨zK BK144.1⟩, ⟨zK BK145.1⟩, ⟨zK BK151.1⟩, ⟨zB0⟩⟩
  subst c20
  rw [if_pos rfl] at H
  by_cases c21 : a0_2 = 0
  rotate_left
  ·rw [if_neg c21] at H
   have c21b0 : (a0_2 == 0) = false := beq_eq_false_iff_ne.mpr c21
   have c21b1 : (a0_2 != 0) = true := bne_iff_ne.mpr c21
   (first | rw [c21b0] | (simp only [i64_w, i32_w]; rw [c21b0]) | skip)
   have H' := zM H
   clear H
   have hnb29 := NB143_144.1
   have hnc29 := NB144_143.1
   have hnb30 := NB143_145.1
   have hnc30 := NB145_143.1
   have hnb31 := NB143_151.1
   have hnc31 := NB151_143.1
   have hcz32 := zc_3 (w := w13) BK143.1
   go_wp2_with (first | ((with_reducible refine zG Try.func52 15 #[.agg #[.slice A0_0 l0_0.length c0_0, .int .i64 a0_1, .int .i64 a0_2]] ?_); (with_reducible refine (spec_HartOk.calls k _ _ l0_0 a0_1 a0_2 true _ ?side1 ?side2 A19.1).mono ?_); (case side1 => exact Kd.C_below HR0_0.1 zB0); (case side2 => exact HC0_0.1); rintro e w33 ⟨rfl, hb⟩; refine ⟨_, rfl, ?_⟩; replace HO148 := zM (Kd.R_below (by refine zrR ?_; exact (Kd.R_mono (zfR (zfR (zfR (Kd.R_types HO148.1 BK151.1 (by decide))))) (fun _ h_ => h_.1))) hb); replace BK143 := zM (zf BK143.1 hb); replace BK144 := zM (zf BK144.1 hb); replace BK145 := zM (zf BK145.1 hb); replace BK151 := zM (blk_below (g := gb151) (o := .cells #[.slice Ao14 t146.length co14, .int .i64 t149, .int .i64 t150] 29 (0, 0)) (by exact zp3 (zK BK151.1)) hb); replace HB := zM (below_step zB0 hb); clear hb; have hcz34 := zc_3 (w := w33) BK143.1))
   go_meet
   case rel => exact ⟨_, (true), zJJ, H', ⟨by first | omega | exact Nat.le_refl _⟩, ⟨zR HO148.1⟩, ⟨zK BK143.1⟩, ⟨zK BK144.1⟩, ⟨zK BK145.1⟩, ⟨zK BK151.1⟩, ⟨zB0⟩⟩
  rw [if_pos c21] at H
  have c21b0 : (a0_2 == 0) = true := beq_iff_eq.mpr c21
  have c21b1 : (a0_2 != 0) = false := bne_eq_false_iff_eq.mpr c21
  clear c21
  (first | rw [c21b0] | (simp only [i64_w, i32_w]; rw [c21b0]) | skip)
  replace H := zO H
  obtain ⟨t153, A22, H⟩ := H
  have H' := zM H
  clear H
  have hnb23 := NB143_144.1
  have hnc23 := NB144_143.1
  have hnb24 := NB143_145.1
  have hnc24 := NB145_143.1
  have hnb25 := NB143_151.1
  have hnc25 := NB151_143.1
  have hcz26 := zc_3 (w := w13) BK143.1
  go_wp2_with (first | ((with_reducible refine zG Try.func52 15 #[.agg #[.slice A0_0 l0_0.length c0_0, .int .i64 a0_1, .int .i64 a0_2]] ?_); (with_reducible refine (spec_HartOk.calls k _ _ l0_0 a0_1 a0_2 true _ ?side1 ?side2 A19.1).mono ?_); (case side1 => exact Kd.C_below HR0_0.1 zB0); (case side2 => exact HC0_0.1); rintro e w27 ⟨rfl, hb⟩; refine ⟨_, rfl, ?_⟩; replace HO148 := zM (Kd.R_below (by refine zrR ?_; exact (Kd.R_mono (zfR (zfR (zfR (Kd.R_types HO148.1 BK151.1 (by decide))))) (fun _ h_ => h_.1))) hb); replace BK143 := zM (zf BK143.1 hb); replace BK144 := zM (zf BK144.1 hb); replace BK145 := zM (zf BK145.1 hb); replace BK151 := zM (blk_below (g := gb151) (o := .cells #[.slice Ao14 t146.length co14, .int .i64 t149, .int .i64 t150] 29 (0, 0)) (by exact zp3 (zK BK151.1)) hb); replace HB := zM (below_step zB0 hb); clear hb; have hcz28 := zc_3 (w := w27) BK143.1) | (go_at_call 49; (with_reducible refine (spec_l1In.calls a2 0 65535 t153 _ A22.1).mono ?_); rintro e w' ⟨rfl, ⟨nd, rfl⟩⟩))
  go_meet
  case rel => exact ⟨_, (!t153), zJJ, H', ⟨by first | omega | exact Nat.le_refl _⟩, ⟨zR HO148.1⟩, ⟨zK BK143.1⟩, ⟨zK BK144.1⟩, ⟨zK BK145.1⟩, ⟨zK BK151.1⟩, ⟨zB0⟩⟩
 case rest =>
  clear HC5
  obtain ⟨kq, x26_4, rfl, HA, HJ4, HO_152000, BK143, BK144, BK145, BK151, HB⟩ := hcut
  cases kq with
  | zero => exact absurd HA.1 (by simp [spec_Work.j0])
  | succ kj4 =>
   have H := HA.1
   clear HA
   simp only [spec_Work.j0] at H
   by_cases c40 : x26_4 = true
   ·subst c40
    rw [if_pos rfl] at H
    simp only [Option.some.injEq, Prod.mk.injEq] at H
    obtain ⟨rfl, rfl, rfl, rfl⟩ := H
    have hnb41 := NB151_143.1
    have hnc41 := NB143_151.1
    have hnb42 := NB151_144.1
    have hnc42 := NB144_151.1
    have hnb43 := NB151_145.1
    have hnc43 := NB145_151.1
    have hcz44 := zc_3 (w := wc) BK151.1
    have hnb45 := NB145_143.1
    have hnc45 := NB143_145.1
    have hnb46 := NB145_144.1
    have hnc46 := NB144_145.1
    have hcz47 := zc_3 (w := wc) BK145.1
    go_wp2
    refine bodyPost_ret (results_ct rfl _ _ gb145 29 #[.slice Ao14 t146.length co14, .int .i64 t149, .int .i64 t150] (0, 0) _ rfl (by exact zp3 (zK BK145.1)) Try.underlying29 rfl (by kernel_rfl)) rfl ?_
    exact ⟨_, zE, by refine zrR ?_; exact Kd.R_mono (zfR (zfR (zfR (Kd.R_types HO_152000.1 BK145.1 (by decide))))) (fun _ hk => trivial), zB0⟩
   replace c40 := Bool.eq_false_iff.mpr c40
   subst c40
   rw [if_neg zF] at H
   replace H := zO H
   obtain ⟨t154, A48, H⟩ := H
   replace H := zO H
   obtain ⟨t155, A49, H⟩ := H
   by_cases c50 : t155 = true
   rotate_left
   ·replace c50 := Bool.eq_false_iff.mpr c50
    subst c50
    rw [if_neg zF] at H
    simp only [Option.some.injEq, Prod.mk.injEq] at H
    obtain ⟨rfl, rfl, rfl, rfl⟩ := H
    have hnb169 := NB143_144.1
    have hnc169 := NB144_143.1
    have hnb170 := NB143_145.1
    have hnc170 := NB145_143.1
    have hnb171 := NB143_151.1
    have hnc171 := NB151_143.1
    have hcz172 := zc_3 (w := wc) BK143.1
    go_wp2_with (first | ((with_reducible refine zG Try.func125 31 #[.int .i64 (wrap64 (a0_1 + 1))] ?_); (with_reducible refine (spec_l9Address.calls (wrap64 (a0_1 + 1)) t154 _ A48.1).mono ?_); rintro e w' ⟨rfl, ⟨nd, rfl⟩⟩; refine ⟨_, rfl, ?_⟩; (try (rw [drewN_self wc]; generalize hq_ : World.drewN wc _ = wc; have n0_ : Aside0 (Kd.R (Kd.int .i64) 3 wc w.heap.size (fun _ => True) (.slice Ao14 t146.length co14) t146) := ⟨by rw [← hq_]; exact (zR HO_152000.1)⟩; have n1_ : Aside0 (wc.heap[gb143]? = some (.cells #[.slice A0_0 l0_0.length c0_0, .int .i64 a0_1, .int .i64 a0_2] 29 (0, 0))) := ⟨by rw [← hq_]; exact (zK BK143.1)⟩; have n2_ : Aside0 (wc.heap[gb144]? = some (.cells #[.int .i64 a1_0, .int .i64 a1_1, .int .i64 a1_2, .int .i64 a1_3, .int .i64 a1_4] 59 (0, 0))) := ⟨by rw [← hq_]; exact (zK BK144.1)⟩; have n3_ : Aside0 (wc.heap[gb145]? = some (.cells #[.slice none 0 0, .int .i64 0, .int .i64 0] 29 (0, 0))) := ⟨by rw [← hq_]; exact (zK BK145.1)⟩; have n4_ : Aside0 (wc.heap[gb151]? = some (.cells #[.slice Ao14 t146.length co14, .int .i64 t149, .int .i64 t150] 29 (0, 0))) := ⟨by rw [← hq_]; exact (zK BK151.1)⟩; have n5_ : Aside0 (Below w.heap.size w wc) := ⟨by rw [← hq_]; exact zB0⟩; clear HO_152000 BK143 BK144 BK145 BK151 HB hq_; have HO_152000 := n0_; have BK143 := n1_; have BK144 := n2_; have BK145 := n3_; have BK151 := n4_; have HB := n5_; clear n0_ n1_ n2_ n3_ n4_ n5_)); have hnb173 := NB151_144.1; have hnc173 := NB144_151.1; have hnb174 := NB151_145.1; have hnc174 := NB145_151.1; have hcz175 := zc_3 (w := wc) BK151.1; have hnb176 := NB144_145.1; have hnc176 := NB145_144.1; have hcz177 := zc_5 (w := wc) BK144.1) | ((with_reducible refine zG Try.func124 34 #[.agg #[.int .i64 a1_0, .int .i64 a1_1, .int .i64 a1_2, .int .i64 a1_3, .int .i64 a1_4]] ?_); (with_reducible refine (spec_InsOk.calls a1_0 a1_1 a1_2 a1_3 a1_4 false _ A49.1).mono ?_); rintro e w178 ⟨rfl, hb⟩; refine ⟨_, rfl, ?_⟩; replace HO_152000 := zM (Kd.R_below (by refine zrR ?_; exact (Kd.R_mono (zfR (Kd.R_types HO_152000.1 BK151.1 (by decide))) (fun _ h_ => h_.1))) hb); replace BK143 := zM (zf BK143.1 hb); replace BK144 := zM (zf BK144.1 hb); replace BK145 := zM (zf BK145.1 hb); replace BK151 := zM (blk_below (g := gb151) (o := .cells #[.slice Ao14 t146.length co14, .int .i64 t154, .int .i64 t150] 29 (0, 0)) zPq hb); replace HB := zM (below_step zB0 hb); clear hb; have hcz179 := zc_3 (w := w178) BK143.1; have hcz180 := zc_3 (w := w178) BK151.1; have hcz181 := zc_3 (w := w178) BK145.1))
    refine bodyPost_ret (results_ct rfl _ _ gb145 29 #[.slice Ao14 t146.length co14, .int .i64 a0_1, .int .i64 2] (0, 0) _ rfl zPq Try.underlying29 rfl (by kernel_rfl)) rfl ?_
    exact ⟨_, zE, by refine zrR ?_; exact Kd.R_mono (zfR (zfR (zfR (zgR (zgR (Kd.R_types (Kd.R_types HO_152000.1 BK151.1 (by decide)) BK145.1 (by decide))))))) (fun _ hk => trivial), zB0⟩
   subst c50
   rw [if_pos rfl] at H
   replace H := zIt H
   obtain ⟨c51b0, H⟩ := H
   replace H := zIt H
   obtain ⟨c52b0, H⟩ := H
   replace H := zIt H
   obtain ⟨c53b0, H⟩ := H
   replace H := zIt H
   obtain ⟨c54b0, H⟩ := H
   have HC55 := zM H
   clear H
   have hnb56 := NB143_144.1
   have hnc56 := NB144_143.1
   have hnb57 := NB143_145.1
   have hnc57 := NB145_143.1
   have hnb58 := NB143_151.1
   have hnc58 := NB151_143.1
   have hcz59 := zc_3 (w := wc) BK143.1
   try go_wp2_with (first | ((with_reducible refine zG Try.func125 31 #[.int .i64 (wrap64 (a0_1 + 1))] ?_); (with_reducible refine (spec_l9Address.calls (wrap64 (a0_1 + 1)) t154 _ A48.1).mono ?_); rintro e w' ⟨rfl, ⟨nd, rfl⟩⟩; refine ⟨_, rfl, ?_⟩; (try (rw [drewN_self wc]; generalize hq_ : World.drewN wc _ = wc; have n0_ : Aside0 (Kd.R (Kd.int .i64) 3 wc w.heap.size (fun _ => True) (.slice Ao14 t146.length co14) t146) := ⟨by rw [← hq_]; exact (zR HO_152000.1)⟩; have n1_ : Aside0 (wc.heap[gb143]? = some (.cells #[.slice A0_0 l0_0.length c0_0, .int .i64 a0_1, .int .i64 a0_2] 29 (0, 0))) := ⟨by rw [← hq_]; exact (zK BK143.1)⟩; have n2_ : Aside0 (wc.heap[gb144]? = some (.cells #[.int .i64 a1_0, .int .i64 a1_1, .int .i64 a1_2, .int .i64 a1_3, .int .i64 a1_4] 59 (0, 0))) := ⟨by rw [← hq_]; exact (zK BK144.1)⟩; have n3_ : Aside0 (wc.heap[gb145]? = some (.cells #[.slice none 0 0, .int .i64 0, .int .i64 0] 29 (0, 0))) := ⟨by rw [← hq_]; exact (zK BK145.1)⟩; have n4_ : Aside0 (wc.heap[gb151]? = some (.cells #[.slice Ao14 t146.length co14, .int .i64 t149, .int .i64 t150] 29 (0, 0))) := ⟨by rw [← hq_]; exact (zK BK151.1)⟩; have n5_ : Aside0 (Below w.heap.size w wc) := ⟨by rw [← hq_]; exact zB0⟩; clear HO_152000 BK143 BK144 BK145 BK151 HB hq_; have HO_152000 := n0_; have BK143 := n1_; have BK144 := n2_; have BK145 := n3_; have BK151 := n4_; have HB := n5_; clear n0_ n1_ n2_ n3_ n4_ n5_)); have hnb60 := NB151_144.1; have hnc60 := NB144_151.1; have hnb61 := NB151_145.1; have hnc61 := NB145_151.1; have hcz62 := zc_3 (w := wc) BK151.1; have hnb63 := NB144_145.1; have hnc63 := NB145_144.1; have hcz64 := zc_5 (w := wc) BK144.1) | ((with_reducible refine zG Try.func124 34 #[.agg #[.int .i64 a1_0, .int .i64 a1_1, .int .i64 a1_2, .int .i64 a1_3, .int .i64 a1_4]] ?_); (with_reducible refine (spec_InsOk.calls a1_0 a1_1 a1_2 a1_3 a1_4 true _ A49.1).mono ?_); rintro e w65 ⟨rfl, hb⟩; refine ⟨_, rfl, ?_⟩; replace HO_152000 := zM (Kd.R_below (by refine zrR ?_; exact (Kd.R_mono (zfR (Kd.R_types HO_152000.1 BK151.1 (by decide))) (fun _ h_ => h_.1))) hb); replace BK143 := zM (zf BK143.1 hb); replace BK144 := zM (zf BK144.1 hb); replace BK145 := zM (zf BK145.1 hb); replace BK151 := zM (blk_below (g := gb151) (o := .cells #[.slice Ao14 t146.length co14, .int .i64 t154, .int .i64 t150] 29 (0, 0)) zPq hb); replace HB := zM (below_step zB0 hb); clear hb))
   replace HO_152000 := zM (Kd.R_drew HO_152000.1)
   replace BK143 := zM (blk_drew BK143.1)
   replace BK144 := zM (blk_drew BK144.1)
   replace BK145 := zM (blk_drew BK145.1)
   replace BK151 := zM (blk_drew BK151.1)
   replace HB := zM (below_drew1 HB.1)
   obtain ⟨p156, q156, ad156, e156, hx156_0⟩ := zRd (Kd.at_int HR0_0.1 a1_2)
   have hw156_0 := hx156_0
   cases e156
   replace hx156_0 := zHx HB.1 hx156_0
   obtain ⟨p157, q157, ad157, e157, hx157_0⟩ := zRd (Kd.at_int HR0_0.1 a1_3)
   have hw157_0 := hx157_0
   obtain rfl : ad156 = ad157 := (by injection e157)
   replace hx157_0 := zHx HB.1 hx157_0
   refine start_ (n := 14) (S := fun w' => w'.cell? ⟨gb143, 0, none⟩ = some (.slice (some ad156) l0_0.length c0_0) ∧ w'.cell? ⟨gb143, 1, none⟩ = some (.int .i64 a0_1) ∧ w'.cell? ⟨gb143, 2, none⟩ = some (.int .i64 a0_2) ∧ w'.cell? ⟨gb144, 0, none⟩ = some (.int .i64 a1_0) ∧ w'.cell? ⟨gb144, 1, none⟩ = some (.int .i64 a1_1) ∧ w'.cell? ⟨gb144, 2, none⟩ = some (.int .i64 a1_2) ∧ w'.cell? ⟨gb144, 3, none⟩ = some (.int .i64 a1_3) ∧ w'.cell? ⟨gb144, 4, none⟩ = some (.int .i64 a1_4) ∧ w'.cell? (ad156.add (a1_2).toNat) = some (.int .i64 (rd l0_0 a1_2)) ∧ w'.cell? (ad156.add (a1_3).toNat) = some (.int .i64 (rd l0_0 a1_3))) (ds := []) #[false, false, false, false, false, false, false, false, false, false, false, false, false, false] (by kernel_rfl) rfl rfl ⟨(blk_cell BK143.1 0).trans rfl, (blk_cell BK143.1 1).trans rfl, (blk_cell BK143.1 2).trans rfl, (blk_cell BK144.1 0).trans rfl, (blk_cell BK144.1 1).trans rfl, (blk_cell BK144.1 2).trans rfl, (blk_cell BK144.1 3).trans rfl, (blk_cell BK144.1 4).trans rfl, ((HB.1.cell (World.block_lt_of_cell? w _ hw156_0)).trans hw156_0), ((HB.1.cell (World.block_lt_of_cell? w _ hw157_0)).trans hw157_0)⟩ (fun hHeld => ?_); refine with_tabW spec_Work.tab10 spec_Work.bits10 (fun HT_ HW_ => ?_)
   generalize w65.drew = w66 at HO_152000 BK143 BK144 BK145 BK151 HB hx156_0 hx157_0 hHeld ⊢
   refine zPu 0 ?_
   refine zPu 2 ?_
   refine zPu 6 ?_
   refine zPu 8 ?_
   refine zTk10 1 hHeld ?_
   refine zTk10 3 hHeld ?_
   refine zPu 4 ?_
   refine zTk10 5 hHeld ?_
   refine zPu 12 ?_
   refine zTk10 7 hHeld ?_
   refine zTk10 9 hHeld ?_
   refine zPu 10 ?_
   refine zTk10 11 hHeld ?_
   refine zPu 13 ?_
   refine done_ (done_of HT_.1 (by kernel_rfl)) ?_
   go_upto_region 11 with (fail)
   go_cut [54] (fun v54 wc => ∃ (kq : Nat) (x54_54 : Int), v54 = .int .i64 x54_54 ∧ Aside0 (spec_Work.j1 kq a2 (-1) (rd l0_0 a1_2) (rd l0_0 a1_3) x54_54 l0_0 a0_1 a0_2 a1_0 a1_1 a1_2 a1_3 a1_4 t146 t154 t150 = some (r1, r2, r3, r4)) ∧ Aside0 (kq ≤ kj4) ∧ Aside0 (Kd.R (Kd.int .i64) 3 wc w.heap.size (fun _ => True) (.slice Ao14 t146.length co14) t146) ∧ Aside0 (wc.heap[gb143]? = some (.cells #[(.slice (some ad156) l0_0.length c0_0), .int .i64 a0_1, .int .i64 a0_2] 29 (0, 0))) ∧ Aside0 (wc.heap[gb144]? = some (.cells #[.int .i64 a1_0, .int .i64 a1_1, .int .i64 a1_2, .int .i64 a1_3, .int .i64 a1_4] 59 (0, 0))) ∧ Aside0 (wc.heap[gb145]? = some (.cells #[(.slice none 0 0), .int .i64 0, .int .i64 0] 29 (0, 0))) ∧ Aside0 (wc.heap[gb151]? = some (.cells #[(.slice Ao14 t146.length co14), .int .i64 t154, .int .i64 t150] 29 (0, 0))) ∧ Aside0 (Below w.heap.size w wc))
   case first =>
    have H := HC55.1
    clear HC55
    have H' := zM H
    clear H
    have hnb67 := NB144_143.1
    have hnc67 := NB143_144.1
    have hnb68 := NB144_145.1
    have hnc68 := NB145_144.1
    have hnb69 := NB144_151.1
    have hnc69 := NB151_144.1
    have hcz70 := zc_5 (w := w66) BK144.1
    go_wp2
    go_meet
    case rel => exact ⟨_, (a1_0), zJJ, H', ⟨by have := HJ4.1; first | omega | exact Nat.le_refl _⟩, ⟨zR HO_152000.1⟩, ⟨zK BK143.1⟩, ⟨zK BK144.1⟩, ⟨zK BK145.1⟩, ⟨zK BK151.1⟩, ⟨zB0⟩⟩
   case rest =>
    clear HC55
    obtain ⟨kq, x54_54, rfl, HA, HJ54, HO_152000, BK143, BK144, BK145, BK151, HB⟩ := hcut
    cases kq with
    | zero => exact absurd HA.1 (by simp [spec_Work.j1])
    | succ kj54 =>
     have H := HA.1
     clear HA
     simp only [spec_Work.j1] at H
     have HC71 := zM H
     clear H
     go_upto_block 0 with (fail)
     go_cut [9] (fun v9 wc => ∃ (kq : Nat) (x9_70 : Int) (x152000_70 : List Int) (x152001_70 : Int) (x152002_70 : Int) (u152000 : Value), v9 = .int .i64 x9_70 ∧ Aside0 (spec_Work.j2 kq x9_70 x152000_70 x152001_70 x152002_70 = some (r1, r2, r3, r4)) ∧ Aside0 (kq ≤ kj54) ∧ Aside0 (Kd.R (Kd.int .i64) 3 wc w.heap.size (fun _ => True) u152000 x152000_70) ∧ Aside0 (wc.heap[gb143]? = some (.cells #[(.slice (some ad156) l0_0.length c0_0), .int .i64 a0_1, .int .i64 a0_2] 29 (0, 0))) ∧ Aside0 (wc.heap[gb144]? = some (.cells #[.int .i64 a1_0, .int .i64 a1_1, .int .i64 a1_2, .int .i64 a1_3, .int .i64 a1_4] 59 (0, 0))) ∧ Aside0 (wc.heap[gb145]? = some (.cells #[(.slice none 0 0), .int .i64 0, .int .i64 0] 29 (0, 0))) ∧ Aside0 (wc.heap[gb151]? = some (.cells #[u152000, .int .i64 x152001_70, .int .i64 x152002_70] 29 (0, 0))) ∧ Aside0 (Below w.heap.size w wc))
     case first =>
      have H := HC71.1
      clear HC71
      by_cases c72 : x54_54 = 1
      ·rw [if_pos c72] at H
       have c72b0 : (x54_54 == 1) = true := beq_iff_eq.mpr c72
       have c72b1 : (x54_54 != 1) = false := bne_eq_false_iff_eq.mpr c72
       clear c72
       (first | rw [c72b0] | (simp only [i64_w, i32_w]; rw [c72b0]) | skip)
       replace H := zIt H
       obtain ⟨c73b0, H⟩ := H
       replace H := zIt H
       obtain ⟨c74b0, H⟩ := H
       generalize hy158 : ((t146.set (a1_1 : Int).toNat a1_4) : List Int) = y158 at H
       have Ny158 := zM hy158.symm
       clear hy158
       have H' := zM H
       clear H
       have hnb76 := NB151_143.1
       have hnc76 := NB143_151.1
       have hnb77 := NB151_144.1
       have hnc77 := NB144_151.1
       have hnb78 := NB151_145.1
       have hnc78 := NB145_151.1
       have hcz79 := zc_3 (w := wc) BK151.1
       have hnb80 := NB144_143.1
       have hnc80 := NB143_144.1
       have hnb81 := NB144_145.1
       have hnc81 := NB145_144.1
       have hcz82 := zc_5 (w := wc) BK144.1
       have p75 : 0 ≤ (a1_1 : Int) := zA
       have q75 : (a1_1 : Int) < ((t146.length : Int) : Int) := zA
       obtain ⟨go75, co75, eo75, gb75, gl75, cl75, HG75⟩ := Kd.R_form HO_152000.1 (by omega)
       (first | cases eo75 | (injection eo75 with ea_ en_ ec_; (first | subst ea_ | (injection ea_ with ea_; subst ea_)); subst ec_; clear en_))
       have GB75 := zM gb75
       have GG75 := zM HG75
       clear gb75 gl75 HG75
       obtain ⟨hx75_0, hf75_0⟩ := Kd.R_celln 0 HO_152000.1 (a1_1 : Int) p75 q75
       replace p75 := eq_true p75
       replace q75 := eq_true q75
       have HP83 := Kd.R_putg HO_152000.1 (a1_1 : Int) a1_4
       go_wp2_with (first | ((with_reducible refine gate_store (t := 3) (p := 63) rfl ?_); refine store_event (t := 3) (p := 63) (v := ?vo_w84) (w1 := (wc.setCell ⟨go75, (a1_1 : Int).toNat, none⟩ (.int .i64 a1_4))) ?hg ?ho ?hn ?hr ?_; (case ho => rfl); (case hg => rfl); (case hn => rfl); (case hr => exact zHH); intro w84 hw; have hg : wc.grownBy w84 (some go75) := (by rw [hw]; exact HP83.2); have hp_ : Kd.R (Kd.int .i64) 3 w84 w.heap.size (fun _ => True) (.slice (some ⟨go75, 0, none⟩) t146.length co14) y158 := (by rw [hw, Ny158.1]; exact HP83.1); clear HP83; replace BK143 := zM (zg BK143.1 hg (Kd.R_ne HO_152000.1 BK143.1 (by decide))); replace BK144 := zM (zg BK144.1 hg (Kd.R_ne HO_152000.1 BK144.1 (by decide))); replace BK145 := zM (zg BK145.1 hg (Kd.R_ne HO_152000.1 BK145.1 (by decide))); replace BK151 := zM (zg BK151.1 hg (Kd.R_ne HO_152000.1 BK151.1 (by decide))); replace HO_152000 := zM hp_; replace HB := zM ((by rw [hw]; exact below_set (HB.1) GB75.1 : Below w.heap.size w w84)); clear hg hw hp_))
       go_meet
       case rel => exact ⟨_, ((-1)), (y158), (t154), (t150), (.slice (some ⟨go75, 0, none⟩) t146.length co14), zJJ, H', ⟨by have := HJ4.1; have := HJ54.1; first | omega | exact Nat.le_refl _⟩, ⟨zR HO_152000.1⟩, ⟨zK BK143.1⟩, ⟨zK BK144.1⟩, ⟨zK BK145.1⟩, ⟨zK BK151.1⟩, ⟨zB0⟩⟩
      rw [if_neg c72] at H
      have c72b0 : (x54_54 == 1) = false := beq_eq_false_iff_ne.mpr c72
      have c72b1 : (x54_54 != 1) = true := bne_iff_ne.mpr c72
      (first | rw [c72b0] | (simp only [i64_w, i32_w]; rw [c72b0]) | skip)
      by_cases c85 : x54_54 = 2
      ·rw [if_pos c85] at H
       have c85b0 : (x54_54 == 2) = true := beq_iff_eq.mpr c85
       have c85b1 : (x54_54 != 2) = false := bne_eq_false_iff_eq.mpr c85
       clear c85
       replace H := zO H
       obtain ⟨t159, A86, H⟩ := H
       replace H := zIt H
       obtain ⟨c87b0, H⟩ := H
       replace H := zIt H
       obtain ⟨c88b0, H⟩ := H
       generalize hy160 : ((t146.set (a1_1 : Int).toNat t159) : List Int) = y160 at H
       have Ny160 := zM hy160.symm
       clear hy160
       have H' := zM H
       clear H
       try go_wp2
       replace HO_152000 := zM (Kd.R_drew HO_152000.1)
       replace BK143 := zM (blk_drew BK143.1)
       replace BK144 := zM (blk_drew BK144.1)
       replace BK145 := zM (blk_drew BK145.1)
       replace BK151 := zM (blk_drew BK151.1)
       replace HB := zM (below_drew1 HB.1)
       refine start_ (n := 10) (S := fun w' => w'.cell? ⟨gb151, 0, none⟩ = some (.slice Ao14 t146.length co14) ∧ w'.cell? ⟨gb151, 1, none⟩ = some (.int .i64 t154) ∧ w'.cell? ⟨gb151, 2, none⟩ = some (.int .i64 t150) ∧ w'.cell? ⟨gb144, 0, none⟩ = some (.int .i64 a1_0) ∧ w'.cell? ⟨gb144, 1, none⟩ = some (.int .i64 a1_1) ∧ w'.cell? ⟨gb144, 2, none⟩ = some (.int .i64 a1_2) ∧ w'.cell? ⟨gb144, 3, none⟩ = some (.int .i64 a1_3) ∧ w'.cell? ⟨gb144, 4, none⟩ = some (.int .i64 a1_4)) (ds := [9]) zq4_0 (by kernel_rfl) rfl rfl ⟨(blk_cell BK151.1 0).trans rfl, (blk_cell BK151.1 1).trans rfl, (blk_cell BK151.1 2).trans rfl, (blk_cell BK144.1 0).trans rfl, (blk_cell BK144.1 1).trans rfl, (blk_cell BK144.1 2).trans rfl, (blk_cell BK144.1 3).trans rfl, (blk_cell BK144.1 4).trans rfl⟩ (fun hHeld => ?_); refine with_tabW spec_Work.tab15 spec_Work.bits15 (fun HT_ HW_ => ?_)
       generalize wc.drew = w90 at HO_152000 BK143 BK144 BK145 BK151 HB hHeld ⊢
       refine zPu 0 ?_
       refine zPu 2 ?_
       refine zPu 4 ?_
       refine zPu 5 ?_
       refine zPu 6 ?_
       refine zTk8 1 hHeld ?_
       refine zTk8 3 hHeld ?_
       refine zOn 7 (some 73) fun K hK => ?_
       refine zGs Try.func126 #[.int .i64 (wrap64 ((rd l0_0 a1_2) + (rd l0_0 a1_3)))] ?_
       with_reducible refine (spec_l9Word.calls (wrap64 ((rd l0_0 a1_2) + (rd l0_0 a1_3))) t159 _ A86.1).mono ?_
       rintro e w' ⟨rfl, ⟨nd, rfl⟩⟩
       refine ⟨_, rfl, ?_⟩
       (try (rw [drewN_self w90]; generalize hq_ : World.drewN w90 _ = w90; have n0_ : Aside0 (Kd.R (Kd.int .i64) 3 w90 w.heap.size (fun _ => True) (.slice Ao14 t146.length co14) t146) := ⟨by rw [← hq_]; exact (zR HO_152000.1)⟩; have n1_ : Aside0 (w90.heap[gb143]? = some (.cells #[.slice (some ad156) l0_0.length c0_0, .int .i64 a0_1, .int .i64 a0_2] 29 (0, 0))) := ⟨by rw [← hq_]; exact (zK BK143.1)⟩; have n2_ : Aside0 (w90.heap[gb144]? = some (.cells #[.int .i64 a1_0, .int .i64 a1_1, .int .i64 a1_2, .int .i64 a1_3, .int .i64 a1_4] 59 (0, 0))) := ⟨by rw [← hq_]; exact (zK BK144.1)⟩; have n3_ : Aside0 (w90.heap[gb145]? = some (.cells #[.slice none 0 0, .int .i64 0, .int .i64 0] 29 (0, 0))) := ⟨by rw [← hq_]; exact (zK BK145.1)⟩; have n4_ : Aside0 (w90.heap[gb151]? = some (.cells #[.slice Ao14 t146.length co14, .int .i64 t154, .int .i64 t150] 29 (0, 0))) := ⟨by rw [← hq_]; exact (zK BK151.1)⟩; have n5_ : Aside0 (Below w.heap.size w w90) := ⟨by rw [← hq_]; exact zB0⟩; clear HO_152000 BK143 BK144 BK145 BK151 HB hq_; have HO_152000 := n0_; have BK143 := n1_; have BK144 := n2_; have BK145 := n3_; have BK151 := n4_; have HB := n5_; clear n0_ n1_ n2_ n3_ n4_ n5_))
       have p89 : 0 ≤ (a1_1 : Int) := zA
       have q89 : (a1_1 : Int) < ((t146.length : Int) : Int) := zA
       obtain ⟨go89, co89, eo89, gb89, gl89, cl89, HG89⟩ := Kd.R_form HO_152000.1 (by omega)
       (first | cases eo89 | (injection eo89 with ea_ en_ ec_; (first | subst ea_ | (injection ea_ with ea_; subst ea_)); subst ec_; clear en_))
       have GB89 := zM gb89
       have GG89 := zM HG89
       clear gb89 gl89 HG89
       obtain ⟨hx89_0, hf89_0⟩ := Kd.R_celln 0 HO_152000.1 (a1_1 : Int) p89 q89
       replace p89 := eq_true p89
       replace q89 := eq_true q89
       have HP91 := Kd.R_putn HO_152000.1 (a1_1 : Int) t159
       rw [← Ny160.1] at HP91
       have HQ91 := zM HP91
       clear HP91
       refine hK.out _ _ zCs fun hHeld => ?_
       clear hK K
       refine zNo ?_
       refine zPu 8 ?_
       refine last_ (i := 9) (N := none) zq4_10 rfl rfl (one_of HT_.1 (by kernel_rfl)) (by decide) (fun K hK => ?_)
       refine skip_ (w1 := ?_) (by rfl) rfl ?_ ?_
       rotate_left
       ·go_simp
        rfl
       refine hK.out _ _ ?_
       clear hK K
       refine done_ (done_of HT_.1 (by kernel_rfl)) ?_
       try go_wp2
       go_meet
       case rel => exact ⟨_, ((-1)), (y160), (t154), (t150), (.slice (some ⟨go89, 0, none⟩) t146.length co14), zJJ, H', ⟨by have := HJ4.1; have := HJ54.1; first | omega | exact Nat.le_refl _⟩, ⟨zR HQ91.out⟩, ⟨by refine zP ?_; refine blk_far ?_ (by have h_ := Kd.R_ne HO_152000.1 BK143.1 (by decide); intro e_; exact h_ (by rw [e_]; rfl)) _; refine zP ?_; exact BK143.1⟩, ⟨by refine zP ?_; refine blk_far ?_ (by have h_ := Kd.R_ne HO_152000.1 BK144.1 (by decide); intro e_; exact h_ (by rw [e_]; rfl)) _; refine zP ?_; exact BK144.1⟩, ⟨by refine zP ?_; refine blk_far ?_ (by have h_ := Kd.R_ne HO_152000.1 BK145.1 (by decide); intro e_; exact h_ (by rw [e_]; rfl)) _; refine zP ?_; exact BK145.1⟩, ⟨by refine zP ?_; refine blk_far ?_ (by have h_ := Kd.R_ne HO_152000.1 BK151.1 (by decide); intro e_; exact h_ (by rw [e_]; rfl)) _; refine zP ?_; exact BK151.1⟩, ⟨zB0⟩⟩
      rw [if_neg c85] at H
      have c85b0 : (x54_54 == 2) = false := beq_eq_false_iff_ne.mpr c85
      have c85b1 : (x54_54 != 2) = true := bne_iff_ne.mpr c85
      by_cases c92 : x54_54 = 10
      ·rw [if_pos c92] at H
       have c92b0 : (x54_54 == 10) = true := beq_iff_eq.mpr c92
       have c92b1 : (x54_54 != 10) = false := bne_eq_false_iff_eq.mpr c92
       clear c92
       replace H := zO H
       obtain ⟨t161, A93, H⟩ := H
       replace H := zIt H
       obtain ⟨c94b0, H⟩ := H
       replace H := zIt H
       obtain ⟨c95b0, H⟩ := H
       generalize hy162 : ((t146.set (a1_1 : Int).toNat t161) : List Int) = y162 at H
       have Ny162 := zM hy162.symm
       clear hy162
       have H' := zM H
       clear H
       try go_wp2
       replace HO_152000 := zM (Kd.R_drew HO_152000.1)
       replace BK143 := zM (blk_drew BK143.1)
       replace BK144 := zM (blk_drew BK144.1)
       replace BK145 := zM (blk_drew BK145.1)
       replace BK151 := zM (blk_drew BK151.1)
       replace HB := zM (below_drew1 HB.1)
       refine start_ (n := 10) (S := fun w' => w'.cell? ⟨gb151, 0, none⟩ = some (.slice Ao14 t146.length co14) ∧ w'.cell? ⟨gb151, 1, none⟩ = some (.int .i64 t154) ∧ w'.cell? ⟨gb151, 2, none⟩ = some (.int .i64 t150) ∧ w'.cell? ⟨gb144, 0, none⟩ = some (.int .i64 a1_0) ∧ w'.cell? ⟨gb144, 1, none⟩ = some (.int .i64 a1_1) ∧ w'.cell? ⟨gb144, 2, none⟩ = some (.int .i64 a1_2) ∧ w'.cell? ⟨gb144, 3, none⟩ = some (.int .i64 a1_3) ∧ w'.cell? ⟨gb144, 4, none⟩ = some (.int .i64 a1_4)) (ds := [9]) zq4_0 (by kernel_rfl) rfl rfl ⟨(blk_cell BK151.1 0).trans rfl, (blk_cell BK151.1 1).trans rfl, (blk_cell BK151.1 2).trans rfl, (blk_cell BK144.1 0).trans rfl, (blk_cell BK144.1 1).trans rfl, (blk_cell BK144.1 2).trans rfl, (blk_cell BK144.1 3).trans rfl, (blk_cell BK144.1 4).trans rfl⟩ (fun hHeld => ?_); refine with_tabW spec_Work.tab17 spec_Work.bits17 (fun HT_ HW_ => ?_)
       generalize wc.drew = w97 at HO_152000 BK143 BK144 BK145 BK151 HB hHeld ⊢
       refine zPu 0 ?_
       refine zPu 2 ?_
       refine zPu 4 ?_
       refine zPu 5 ?_
       refine zPu 6 ?_
       refine zTk8 1 hHeld ?_
       refine zTk8 3 hHeld ?_
       refine zOn 7 (some 84) fun K hK => ?_
       refine zGs Try.func126 #[.int .i64 (wrap64 ((rd l0_0 a1_2) - (rd l0_0 a1_3)))] ?_
       with_reducible refine (spec_l9Word.calls (wrap64 ((rd l0_0 a1_2) - (rd l0_0 a1_3))) t161 _ A93.1).mono ?_
       rintro e w' ⟨rfl, ⟨nd, rfl⟩⟩
       refine ⟨_, rfl, ?_⟩
       (try (rw [drewN_self w97]; generalize hq_ : World.drewN w97 _ = w97; have n0_ : Aside0 (Kd.R (Kd.int .i64) 3 w97 w.heap.size (fun _ => True) (.slice Ao14 t146.length co14) t146) := ⟨by rw [← hq_]; exact (zR HO_152000.1)⟩; have n1_ : Aside0 (w97.heap[gb143]? = some (.cells #[.slice (some ad156) l0_0.length c0_0, .int .i64 a0_1, .int .i64 a0_2] 29 (0, 0))) := ⟨by rw [← hq_]; exact (zK BK143.1)⟩; have n2_ : Aside0 (w97.heap[gb144]? = some (.cells #[.int .i64 a1_0, .int .i64 a1_1, .int .i64 a1_2, .int .i64 a1_3, .int .i64 a1_4] 59 (0, 0))) := ⟨by rw [← hq_]; exact (zK BK144.1)⟩; have n3_ : Aside0 (w97.heap[gb145]? = some (.cells #[.slice none 0 0, .int .i64 0, .int .i64 0] 29 (0, 0))) := ⟨by rw [← hq_]; exact (zK BK145.1)⟩; have n4_ : Aside0 (w97.heap[gb151]? = some (.cells #[.slice Ao14 t146.length co14, .int .i64 t154, .int .i64 t150] 29 (0, 0))) := ⟨by rw [← hq_]; exact (zK BK151.1)⟩; have n5_ : Aside0 (Below w.heap.size w w97) := ⟨by rw [← hq_]; exact zB0⟩; clear HO_152000 BK143 BK144 BK145 BK151 HB hq_; have HO_152000 := n0_; have BK143 := n1_; have BK144 := n2_; have BK145 := n3_; have BK151 := n4_; have HB := n5_; clear n0_ n1_ n2_ n3_ n4_ n5_))
       have p96 : 0 ≤ (a1_1 : Int) := zA
       have q96 : (a1_1 : Int) < ((t146.length : Int) : Int) := zA
       obtain ⟨go96, co96, eo96, gb96, gl96, cl96, HG96⟩ := Kd.R_form HO_152000.1 (by omega)
       (first | cases eo96 | (injection eo96 with ea_ en_ ec_; (first | subst ea_ | (injection ea_ with ea_; subst ea_)); subst ec_; clear en_))
       have GB96 := zM gb96
       have GG96 := zM HG96
       clear gb96 gl96 HG96
       obtain ⟨hx96_0, hf96_0⟩ := Kd.R_celln 0 HO_152000.1 (a1_1 : Int) p96 q96
       replace p96 := eq_true p96
       replace q96 := eq_true q96
       have HP98 := Kd.R_putn HO_152000.1 (a1_1 : Int) t161
       rw [← Ny162.1] at HP98
       have HQ98 := zM HP98
       clear HP98
       refine hK.out _ _ zCs fun hHeld => ?_
       clear hK K
       refine zNo ?_
       refine zPu 8 ?_
       refine last_ (i := 9) (N := none) zq4_10 rfl rfl (one_of HT_.1 (by kernel_rfl)) (by decide) (fun K hK => ?_)
       refine skip_ (w1 := ?_) (by rfl) rfl ?_ ?_
       rotate_left
       ·go_simp
        rfl
       refine hK.out _ _ ?_
       clear hK K
       refine done_ (done_of HT_.1 (by kernel_rfl)) ?_
       try go_wp2
       go_meet
       case rel => exact ⟨_, ((-1)), (y162), (t154), (t150), (.slice (some ⟨go96, 0, none⟩) t146.length co14), zJJ, H', ⟨by have := HJ4.1; have := HJ54.1; first | omega | exact Nat.le_refl _⟩, ⟨zR HQ98.out⟩, ⟨by refine zP ?_; refine blk_far ?_ (by have h_ := Kd.R_ne HO_152000.1 BK143.1 (by decide); intro e_; exact h_ (by rw [e_]; rfl)) _; refine zP ?_; exact BK143.1⟩, ⟨by refine zP ?_; refine blk_far ?_ (by have h_ := Kd.R_ne HO_152000.1 BK144.1 (by decide); intro e_; exact h_ (by rw [e_]; rfl)) _; refine zP ?_; exact BK144.1⟩, ⟨by refine zP ?_; refine blk_far ?_ (by have h_ := Kd.R_ne HO_152000.1 BK145.1 (by decide); intro e_; exact h_ (by rw [e_]; rfl)) _; refine zP ?_; exact BK145.1⟩, ⟨by refine zP ?_; refine blk_far ?_ (by have h_ := Kd.R_ne HO_152000.1 BK151.1 (by decide); intro e_; exact h_ (by rw [e_]; rfl)) _; refine zP ?_; exact BK151.1⟩, ⟨zB0⟩⟩
      rw [if_neg c92] at H
      have c92b0 : (x54_54 == 10) = false := beq_eq_false_iff_ne.mpr c92
      have c92b1 : (x54_54 != 10) = true := bne_iff_ne.mpr c92
      by_cases c99 : x54_54 = 3
      ·rw [if_pos c99] at H
       have c99b0 : (x54_54 == 3) = true := beq_iff_eq.mpr c99
       have c99b1 : (x54_54 != 3) = false := bne_eq_false_iff_eq.mpr c99
       clear c99
       replace H := zO H
       obtain ⟨t163, A100, H⟩ := H
       replace H := zIt H
       obtain ⟨c101b0, H⟩ := H
       replace H := zIt H
       obtain ⟨c102b0, H⟩ := H
       generalize hy164 : ((t146.set (a1_1 : Int).toNat t163) : List Int) = y164 at H
       have Ny164 := zM hy164.symm
       clear hy164
       have H' := zM H
       clear H
       try go_wp2
       replace HO_152000 := zM (Kd.R_drew HO_152000.1)
       replace BK143 := zM (blk_drew BK143.1)
       replace BK144 := zM (blk_drew BK144.1)
       replace BK145 := zM (blk_drew BK145.1)
       replace BK151 := zM (blk_drew BK151.1)
       replace HB := zM (below_drew1 HB.1)
       refine start_ (n := 11) (S := fun w' => w'.cell? ⟨gb151, 0, none⟩ = some (.slice Ao14 t146.length co14) ∧ w'.cell? ⟨gb151, 1, none⟩ = some (.int .i64 t154) ∧ w'.cell? ⟨gb151, 2, none⟩ = some (.int .i64 t150) ∧ w'.cell? ⟨gb144, 0, none⟩ = some (.int .i64 a1_0) ∧ w'.cell? ⟨gb144, 1, none⟩ = some (.int .i64 a1_1) ∧ w'.cell? ⟨gb144, 2, none⟩ = some (.int .i64 a1_2) ∧ w'.cell? ⟨gb144, 3, none⟩ = some (.int .i64 a1_3) ∧ w'.cell? ⟨gb144, 4, none⟩ = some (.int .i64 a1_4)) (ds := [10]) #[false, false, false, false, false, false, false, false, false, false, false] (by kernel_rfl) rfl rfl ⟨(blk_cell BK151.1 0).trans rfl, (blk_cell BK151.1 1).trans rfl, (blk_cell BK151.1 2).trans rfl, (blk_cell BK144.1 0).trans rfl, (blk_cell BK144.1 1).trans rfl, (blk_cell BK144.1 2).trans rfl, (blk_cell BK144.1 3).trans rfl, (blk_cell BK144.1 4).trans rfl⟩ (fun hHeld => ?_); refine with_tabW spec_Work.tab19 spec_Work.bits19 (fun HT_ HW_ => ?_)
       generalize wc.drew = w104 at HO_152000 BK143 BK144 BK145 BK151 HB hHeld ⊢
       refine zPu 0 ?_
       refine zPu 2 ?_
       refine zPu 4 ?_
       refine zPu 5 ?_
       refine zTk8 1 hHeld ?_
       refine zTk8 3 hHeld ?_
       refine zTk8 6 hHeld ?_
       refine zPu 7 ?_
       refine zOn 8 (some 96) fun K hK => ?_
       refine zGs Try.func126 #[.int .i64 (wrap64 ((rd l0_0 a1_2) + a1_4))] ?_
       with_reducible refine (spec_l9Word.calls (wrap64 ((rd l0_0 a1_2) + a1_4)) t163 _ A100.1).mono ?_
       rintro e w' ⟨rfl, ⟨nd, rfl⟩⟩
       refine ⟨_, rfl, ?_⟩
       (try (rw [drewN_self w104]; generalize hq_ : World.drewN w104 _ = w104; have n0_ : Aside0 (Kd.R (Kd.int .i64) 3 w104 w.heap.size (fun _ => True) (.slice Ao14 t146.length co14) t146) := ⟨by rw [← hq_]; exact (zR HO_152000.1)⟩; have n1_ : Aside0 (w104.heap[gb143]? = some (.cells #[.slice (some ad156) l0_0.length c0_0, .int .i64 a0_1, .int .i64 a0_2] 29 (0, 0))) := ⟨by rw [← hq_]; exact (zK BK143.1)⟩; have n2_ : Aside0 (w104.heap[gb144]? = some (.cells #[.int .i64 a1_0, .int .i64 a1_1, .int .i64 a1_2, .int .i64 a1_3, .int .i64 a1_4] 59 (0, 0))) := ⟨by rw [← hq_]; exact (zK BK144.1)⟩; have n3_ : Aside0 (w104.heap[gb145]? = some (.cells #[.slice none 0 0, .int .i64 0, .int .i64 0] 29 (0, 0))) := ⟨by rw [← hq_]; exact (zK BK145.1)⟩; have n4_ : Aside0 (w104.heap[gb151]? = some (.cells #[.slice Ao14 t146.length co14, .int .i64 t154, .int .i64 t150] 29 (0, 0))) := ⟨by rw [← hq_]; exact (zK BK151.1)⟩; have n5_ : Aside0 (Below w.heap.size w w104) := ⟨by rw [← hq_]; exact zB0⟩; clear HO_152000 BK143 BK144 BK145 BK151 HB hq_; have HO_152000 := n0_; have BK143 := n1_; have BK144 := n2_; have BK145 := n3_; have BK151 := n4_; have HB := n5_; clear n0_ n1_ n2_ n3_ n4_ n5_))
       have p103 : 0 ≤ (a1_1 : Int) := zA
       have q103 : (a1_1 : Int) < ((t146.length : Int) : Int) := zA
       obtain ⟨go103, co103, eo103, gb103, gl103, cl103, HG103⟩ := Kd.R_form HO_152000.1 (by omega)
       (first | cases eo103 | (injection eo103 with ea_ en_ ec_; (first | subst ea_ | (injection ea_ with ea_; subst ea_)); subst ec_; clear en_))
       have GB103 := zM gb103
       have GG103 := zM HG103
       clear gb103 gl103 HG103
       obtain ⟨hx103_0, hf103_0⟩ := Kd.R_celln 0 HO_152000.1 (a1_1 : Int) p103 q103
       replace p103 := eq_true p103
       replace q103 := eq_true q103
       have HP105 := Kd.R_putn HO_152000.1 (a1_1 : Int) t163
       rw [← Ny164.1] at HP105
       have HQ105 := zM HP105
       clear HP105
       refine hK.out _ _ zCs fun hHeld => ?_
       clear hK K
       refine zNo ?_
       refine zPu 9 ?_
       refine last_ (i := 10) (N := none) #[true, true, true, true, true, true, true, true, true, true, true] rfl rfl (one_of HT_.1 (by kernel_rfl)) (by decide) (fun K hK => ?_)
       refine skip_ (w1 := ?_) (by rfl) rfl ?_ ?_
       rotate_left
       ·go_simp
        rfl
       refine hK.out _ _ ?_
       clear hK K
       refine done_ (done_of HT_.1 (by kernel_rfl)) ?_
       try go_wp2
       go_meet
       case rel => exact ⟨_, ((-1)), (y164), (t154), (t150), (.slice (some ⟨go103, 0, none⟩) t146.length co14), zJJ, H', ⟨by have := HJ4.1; have := HJ54.1; first | omega | exact Nat.le_refl _⟩, ⟨zR HQ105.out⟩, ⟨by refine zP ?_; refine blk_far ?_ (by have h_ := Kd.R_ne HO_152000.1 BK143.1 (by decide); intro e_; exact h_ (by rw [e_]; rfl)) _; refine zP ?_; exact BK143.1⟩, ⟨by refine zP ?_; refine blk_far ?_ (by have h_ := Kd.R_ne HO_152000.1 BK144.1 (by decide); intro e_; exact h_ (by rw [e_]; rfl)) _; refine zP ?_; exact BK144.1⟩, ⟨by refine zP ?_; refine blk_far ?_ (by have h_ := Kd.R_ne HO_152000.1 BK145.1 (by decide); intro e_; exact h_ (by rw [e_]; rfl)) _; refine zP ?_; exact BK145.1⟩, ⟨by refine zP ?_; refine blk_far ?_ (by have h_ := Kd.R_ne HO_152000.1 BK151.1 (by decide); intro e_; exact h_ (by rw [e_]; rfl)) _; refine zP ?_; exact BK151.1⟩, ⟨zB0⟩⟩
      rw [if_neg c99] at H
      have c99b0 : (x54_54 == 3) = false := beq_eq_false_iff_ne.mpr c99
      have c99b1 : (x54_54 != 3) = true := bne_iff_ne.mpr c99
      by_cases c106 : x54_54 = 4
      ·rw [if_pos c106] at H
       have c106b0 : (x54_54 == 4) = true := beq_iff_eq.mpr c106
       have c106b1 : (x54_54 != 4) = false := bne_eq_false_iff_eq.mpr c106
       clear c106
       replace H := zIt H
       obtain ⟨c107b0, H⟩ := H
       replace H := zIt H
       obtain ⟨c108b0, H⟩ := H
       generalize hy165 : ((t146.set (a1_1 : Int).toNat a2) : List Int) = y165 at H
       have Ny165 := zM hy165.symm
       clear hy165
       have H' := zM H
       clear H
       have hnb110 := NB151_143.1
       have hnc110 := NB143_151.1
       have hnb111 := NB151_144.1
       have hnc111 := NB144_151.1
       have hnb112 := NB151_145.1
       have hnc112 := NB145_151.1
       have hcz113 := zc_3 (w := wc) BK151.1
       have hnb114 := NB144_143.1
       have hnc114 := NB143_144.1
       have hnb115 := NB144_145.1
       have hnc115 := NB145_144.1
       have hcz116 := zc_5 (w := wc) BK144.1
       have p109 : 0 ≤ (a1_1 : Int) := zA
       have q109 : (a1_1 : Int) < ((t146.length : Int) : Int) := zA
       obtain ⟨go109, co109, eo109, gb109, gl109, cl109, HG109⟩ := Kd.R_form HO_152000.1 (by omega)
       (first | cases eo109 | (injection eo109 with ea_ en_ ec_; (first | subst ea_ | (injection ea_ with ea_; subst ea_)); subst ec_; clear en_))
       have GB109 := zM gb109
       have GG109 := zM HG109
       clear gb109 gl109 HG109
       obtain ⟨hx109_0, hf109_0⟩ := Kd.R_celln 0 HO_152000.1 (a1_1 : Int) p109 q109
       replace p109 := eq_true p109
       replace q109 := eq_true q109
       have HP117 := Kd.R_putg HO_152000.1 (a1_1 : Int) a2
       go_wp2_with (first | ((with_reducible refine gate_store (t := 3) (p := 105) rfl ?_); refine store_event (t := 3) (p := 105) (v := ?vo_w118) (w1 := (wc.setCell ⟨go109, (a1_1 : Int).toNat, none⟩ (.int .i64 a2))) ?hg ?ho ?hn ?hr ?_; (case ho => rfl); (case hg => rfl); (case hn => rfl); (case hr => exact zHH); intro w118 hw; have hg : wc.grownBy w118 (some go109) := (by rw [hw]; exact HP117.2); have hp_ : Kd.R (Kd.int .i64) 3 w118 w.heap.size (fun _ => True) (.slice (some ⟨go109, 0, none⟩) t146.length co14) y165 := (by rw [hw, Ny165.1]; exact HP117.1); clear HP117; replace BK143 := zM (zg BK143.1 hg (Kd.R_ne HO_152000.1 BK143.1 (by decide))); replace BK144 := zM (zg BK144.1 hg (Kd.R_ne HO_152000.1 BK144.1 (by decide))); replace BK145 := zM (zg BK145.1 hg (Kd.R_ne HO_152000.1 BK145.1 (by decide))); replace BK151 := zM (zg BK151.1 hg (Kd.R_ne HO_152000.1 BK151.1 (by decide))); replace HO_152000 := zM hp_; replace HB := zM ((by rw [hw]; exact below_set (HB.1) GB109.1 : Below w.heap.size w w118)); clear hg hw hp_))
       go_meet
       case rel => exact ⟨_, ((-1)), (y165), (t154), (t150), (.slice (some ⟨go109, 0, none⟩) t146.length co14), zJJ, H', ⟨by have := HJ4.1; have := HJ54.1; first | omega | exact Nat.le_refl _⟩, ⟨zR HO_152000.1⟩, ⟨zK BK143.1⟩, ⟨zK BK144.1⟩, ⟨zK BK145.1⟩, ⟨zK BK151.1⟩, ⟨zB0⟩⟩
      rw [if_neg c106] at H
      have c106b0 : (x54_54 == 4) = false := beq_eq_false_iff_ne.mpr c106
      have c106b1 : (x54_54 != 4) = true := bne_iff_ne.mpr c106
      by_cases c119 : x54_54 = 5
      ·rw [if_pos c119] at H
       have c119b0 : (x54_54 == 5) = true := beq_iff_eq.mpr c119
       have c119b1 : (x54_54 != 5) = false := bne_eq_false_iff_eq.mpr c119
       clear c119
       have H' := zM H
       clear H
       go_wp2
       go_meet
       case rel => exact ⟨_, ((rd l0_0 a1_3)), (t146), (t154), (t150), (.slice Ao14 t146.length co14), zJJ, H', ⟨by have := HJ4.1; have := HJ54.1; first | omega | exact Nat.le_refl _⟩, ⟨zR HO_152000.1⟩, ⟨zK BK143.1⟩, ⟨zK BK144.1⟩, ⟨zK BK145.1⟩, ⟨zK BK151.1⟩, ⟨zB0⟩⟩
      rw [if_neg c119] at H
      have c119b0 : (x54_54 == 5) = false := beq_eq_false_iff_ne.mpr c119
      have c119b1 : (x54_54 != 5) = true := bne_iff_ne.mpr c119
      by_cases c120 : x54_54 = 6
      ·rw [if_pos c120] at H
       have c120b0 : (x54_54 == 6) = true := beq_iff_eq.mpr c120
       have c120b1 : (x54_54 != 6) = false := bne_eq_false_iff_eq.mpr c120
       clear c120
       replace H := zIt H
       obtain ⟨c121b0, H⟩ := H
       replace H := zIt H
       obtain ⟨c122b0, H⟩ := H
       generalize hy166 : ((t146.set (a1_1 : Int).toNat a2) : List Int) = y166 at H
       have Ny166 := zM hy166.symm
       clear hy166
       replace H := zO H
       obtain ⟨t167, A124, H⟩ := H
       have H' := zM H
       clear H
       have hnb125 := NB151_143.1
       have hnc125 := NB143_151.1
       have hnb126 := NB151_144.1
       have hnc126 := NB144_151.1
       have hnb127 := NB151_145.1
       have hnc127 := NB145_151.1
       have hcz128 := zc_3 (w := wc) BK151.1
       have hnb129 := NB144_143.1
       have hnc129 := NB143_144.1
       have hnb130 := NB144_145.1
       have hnc130 := NB145_144.1
       have hcz131 := zc_5 (w := wc) BK144.1
       have p123 : 0 ≤ (a1_1 : Int) := zA
       have q123 : (a1_1 : Int) < ((t146.length : Int) : Int) := zA
       obtain ⟨go123, co123, eo123, gb123, gl123, cl123, HG123⟩ := Kd.R_form HO_152000.1 (by omega)
       (first | cases eo123 | (injection eo123 with ea_ en_ ec_; (first | subst ea_ | (injection ea_ with ea_; subst ea_)); subst ec_; clear en_))
       have GB123 := zM gb123
       have GG123 := zM HG123
       clear gb123 gl123 HG123
       obtain ⟨hx123_0, hf123_0⟩ := Kd.R_celln 0 HO_152000.1 (a1_1 : Int) p123 q123
       replace p123 := eq_true p123
       replace q123 := eq_true q123
       have HP132 := Kd.R_putg HO_152000.1 (a1_1 : Int) a2
       go_wp2_with (first | ((with_reducible refine gate_store (t := 3) (p := 116) rfl ?_); refine store_event (t := 3) (p := 116) (v := ?vo_w133) (w1 := (wc.setCell ⟨go123, (a1_1 : Int).toNat, none⟩ (.int .i64 a2))) ?hg ?ho ?hn ?hr ?_; (case ho => rfl); (case hg => rfl); (case hn => rfl); (case hr => exact zHH); intro w133 hw; have hg : wc.grownBy w133 (some go123) := (by rw [hw]; exact HP132.2); have hp_ : Kd.R (Kd.int .i64) 3 w133 w.heap.size (fun _ => True) (.slice (some ⟨go123, 0, none⟩) t146.length co14) y166 := (by rw [hw, Ny166.1]; exact HP132.1); clear HP132; replace BK143 := zM (zg BK143.1 hg (Kd.R_ne HO_152000.1 BK143.1 (by decide))); replace BK144 := zM (zg BK144.1 hg (Kd.R_ne HO_152000.1 BK144.1 (by decide))); replace BK145 := zM (zg BK145.1 hg (Kd.R_ne HO_152000.1 BK145.1 (by decide))); replace BK151 := zM (zg BK151.1 hg (Kd.R_ne HO_152000.1 BK151.1 (by decide))); replace HO_152000 := zM hp_; replace HB := zM ((by rw [hw]; exact below_set (HB.1) GB123.1 : Below w.heap.size w w133)); clear hg hw hp_) | ((with_reducible refine zG Try.func126 120 #[.int .i64 (wrap64 (a2 + (rd l0_0 a1_3)))] ?_); (with_reducible refine (spec_l9Word.calls (wrap64 (a2 + (rd l0_0 a1_3))) t167 _ A124.1).mono ?_); rintro e w' ⟨rfl, ⟨nd, rfl⟩⟩; refine ⟨_, rfl, ?_⟩))
       go_meet
       case rel => exact ⟨_, (t167), (y166), (t154), (t150), (.slice (some ⟨go123, 0, none⟩) t146.length co14), zJJ, H', ⟨by have := HJ4.1; have := HJ54.1; first | omega | exact Nat.le_refl _⟩, ⟨zR HO_152000.1⟩, ⟨zK BK143.1⟩, ⟨zK BK144.1⟩, ⟨zK BK145.1⟩, ⟨zK BK151.1⟩, ⟨zB0⟩⟩
      rw [if_neg c120] at H
      have c120b0 : (x54_54 == 6) = false := beq_eq_false_iff_ne.mpr c120
      have c120b1 : (x54_54 != 6) = true := bne_iff_ne.mpr c120
      by_cases c134 : x54_54 = 7
      ·rw [if_pos c134] at H
       have c134b0 : (x54_54 == 7) = true := beq_iff_eq.mpr c134
       have c134b1 : (x54_54 != 7) = false := bne_eq_false_iff_eq.mpr c134
       clear c134
       by_cases c135 : (rd l0_0 a1_2) = 0
       rotate_left
       ·rw [if_neg c135] at H
        have c135b0 : ((rd l0_0 a1_2) == 0) = false := beq_eq_false_iff_ne.mpr c135
        have c135b1 : ((rd l0_0 a1_2) != 0) = true := bne_iff_ne.mpr c135
        have H' := zM H
        clear H
        go_wp2
        go_meet
        case rel => exact ⟨_, ((-1)), (t146), (t154), (t150), (.slice Ao14 t146.length co14), zJJ, H', ⟨by have := HJ4.1; have := HJ54.1; first | omega | exact Nat.le_refl _⟩, ⟨zR HO_152000.1⟩, ⟨zK BK143.1⟩, ⟨zK BK144.1⟩, ⟨zK BK145.1⟩, ⟨zK BK151.1⟩, ⟨zB0⟩⟩
       rw [if_pos c135] at H
       have c135b0 : ((rd l0_0 a1_2) == 0) = true := beq_iff_eq.mpr c135
       have c135b1 : ((rd l0_0 a1_2) != 0) = false := bne_eq_false_iff_eq.mpr c135
       clear c135
       replace H := zO H
       obtain ⟨t168, A136, H⟩ := H
       have H' := zM H
       clear H
       have hnb137 := NB144_143.1
       have hnc137 := NB143_144.1
       have hnb138 := NB144_145.1
       have hnc138 := NB145_144.1
       have hnb139 := NB144_151.1
       have hnc139 := NB151_144.1
       have hcz140 := zc_5 (w := wc) BK144.1
       go_wp2_with (first | ((with_reducible refine zG Try.func125 127 #[.int .i64 a1_4] ?_); (with_reducible refine (spec_l9Address.calls a1_4 t168 _ A136.1).mono ?_); rintro e w' ⟨rfl, ⟨nd, rfl⟩⟩; refine ⟨_, rfl, ?_⟩; (try (rw [drewN_self wc]; generalize hq_ : World.drewN wc _ = wc; have n0_ : Aside0 (Kd.R (Kd.int .i64) 3 wc w.heap.size (fun _ => True) (.slice Ao14 t146.length co14) t146) := ⟨by rw [← hq_]; exact (zR HO_152000.1)⟩; have n1_ : Aside0 (wc.heap[gb143]? = some (.cells #[.slice (some ad156) l0_0.length c0_0, .int .i64 a0_1, .int .i64 a0_2] 29 (0, 0))) := ⟨by rw [← hq_]; exact (zK BK143.1)⟩; have n2_ : Aside0 (wc.heap[gb144]? = some (.cells #[.int .i64 a1_0, .int .i64 a1_1, .int .i64 a1_2, .int .i64 a1_3, .int .i64 a1_4] 59 (0, 0))) := ⟨by rw [← hq_]; exact (zK BK144.1)⟩; have n3_ : Aside0 (wc.heap[gb145]? = some (.cells #[.slice none 0 0, .int .i64 0, .int .i64 0] 29 (0, 0))) := ⟨by rw [← hq_]; exact (zK BK145.1)⟩; have n4_ : Aside0 (wc.heap[gb151]? = some (.cells #[.slice Ao14 t146.length co14, .int .i64 t154, .int .i64 t150] 29 (0, 0))) := ⟨by rw [← hq_]; exact (zK BK151.1)⟩; have n5_ : Aside0 (Below w.heap.size w wc) := ⟨by rw [← hq_]; exact zB0⟩; clear HO_152000 BK143 BK144 BK145 BK151 HB hq_; have HO_152000 := n0_; have BK143 := n1_; have BK144 := n2_; have BK145 := n3_; have BK151 := n4_; have HB := n5_; clear n0_ n1_ n2_ n3_ n4_ n5_)); have hnb141 := NB151_143.1; have hnc141 := NB143_151.1; have hnb142 := NB151_145.1; have hnc142 := NB145_151.1; have hcz143 := zc_3 (w := wc) BK151.1))
       go_meet
       case rel => exact ⟨_, ((-1)), (t146), (t168), (t150), (.slice Ao14 t146.length co14), zJJ, H', ⟨by have := HJ4.1; have := HJ54.1; first | omega | exact Nat.le_refl _⟩, ⟨by refine zrR ?_; exact Kd.R_mono (zfR (Kd.R_types HO_152000.1 BK151.1 (by decide))) (fun _ hk => trivial)⟩, ⟨by refine zP ?_; refine blk_far ?_ NB143_151.1 _; refine zP ?_; exact BK143.1⟩, ⟨by refine zP ?_; refine blk_far ?_ NB144_151.1 _; refine zP ?_; exact BK144.1⟩, ⟨by refine zP ?_; refine blk_far ?_ NB145_151.1 _; refine zP ?_; exact BK145.1⟩, ⟨by refine zP ?_; refine blk_put (cs := #[.slice Ao14 t146.length co14, .int .i64 t154, .int .i64 t150]) ?_ 1 _ rfl; refine zP ?_; exact BK151.1⟩, ⟨zB0⟩⟩
      rw [if_neg c134] at H
      have c134b0 : (x54_54 == 7) = false := beq_eq_false_iff_ne.mpr c134
      have c134b1 : (x54_54 != 7) = true := bne_iff_ne.mpr c134
      by_cases c144 : x54_54 = 8
      rotate_left
      ·rw [if_neg c144] at H
       have c144b0 : (x54_54 == 8) = false := beq_eq_false_iff_ne.mpr c144
       have c144b1 : (x54_54 != 8) = true := bne_iff_ne.mpr c144
       by_cases c153 : x54_54 = 9
       rotate_left
       ·rw [if_neg c153] at H
        have c153b0 : (x54_54 == 9) = false := beq_eq_false_iff_ne.mpr c153
        have c153b1 : (x54_54 != 9) = true := bne_iff_ne.mpr c153
        have H' := zM H
        clear H
        go_wp2
        go_meet
        case rel => exact ⟨_, ((-1)), (t146), (t154), (t150), (.slice Ao14 t146.length co14), zJJ, H', ⟨by have := HJ4.1; have := HJ54.1; first | omega | exact Nat.le_refl _⟩, ⟨zR HO_152000.1⟩, ⟨zK BK143.1⟩, ⟨zK BK144.1⟩, ⟨zK BK145.1⟩, ⟨zK BK151.1⟩, ⟨zB0⟩⟩
       rw [if_pos c153] at H
       have c153b0 : (x54_54 == 9) = true := beq_iff_eq.mpr c153
       have c153b1 : (x54_54 != 9) = false := bne_eq_false_iff_eq.mpr c153
       clear c153
       have H' := zM H
       clear H
       have hnb154 := NB143_144.1
       have hnc154 := NB144_143.1
       have hnb155 := NB143_145.1
       have hnc155 := NB145_143.1
       have hnb156 := NB143_151.1
       have hnc156 := NB151_143.1
       have hcz157 := zc_3 (w := wc) BK143.1
       have hnb158 := NB151_144.1
       have hnc158 := NB144_151.1
       have hnb159 := NB151_145.1
       have hnc159 := NB145_151.1
       have hcz160 := zc_3 (w := wc) BK151.1
       go_wp2
       go_meet
       case rel => exact ⟨_, ((-1)), (t146), (a0_1), (1), (.slice Ao14 t146.length co14), zJJ, H', ⟨by have := HJ4.1; have := HJ54.1; first | omega | exact Nat.le_refl _⟩, ⟨by refine zrR ?_; exact Kd.R_mono (zfR (zfR (Kd.R_types HO_152000.1 BK151.1 (by decide)))) (fun _ hk => trivial)⟩, ⟨by refine zP ?_; refine blk_far ?_ NB143_151.1 _; refine zP ?_; refine blk_far ?_ NB143_151.1 _; refine zP ?_; exact BK143.1⟩, ⟨by refine zP ?_; refine blk_far ?_ NB144_151.1 _; refine zP ?_; refine blk_far ?_ NB144_151.1 _; refine zP ?_; exact BK144.1⟩, ⟨by refine zP ?_; refine blk_far ?_ NB145_151.1 _; refine zP ?_; refine blk_far ?_ NB145_151.1 _; refine zP ?_; exact BK145.1⟩, ⟨by refine zP ?_; refine blk_put (cs := #[.slice Ao14 t146.length co14, .int .i64 a0_1, .int .i64 t150]) ?_ 2 _ rfl; refine zP ?_; refine blk_put (cs := #[.slice Ao14 t146.length co14, .int .i64 t154, .int .i64 t150]) ?_ 1 _ rfl; refine zP ?_; exact BK151.1⟩, ⟨zB0⟩⟩
      rw [if_pos c144] at H
      have c144b0 : (x54_54 == 8) = true := beq_iff_eq.mpr c144
      have c144b1 : (x54_54 != 8) = false := bne_eq_false_iff_eq.mpr c144
      clear c144
      replace H := zO H
      obtain ⟨t169, A145, H⟩ := H
      have H' := zM H
      clear H
      have hnb146 := NB144_143.1
      have hnc146 := NB143_144.1
      have hnb147 := NB144_145.1
      have hnc147 := NB145_144.1
      have hnb148 := NB144_151.1
      have hnc148 := NB151_144.1
      have hcz149 := zc_5 (w := wc) BK144.1
      go_wp2_with (first | ((with_reducible refine zG Try.func125 133 #[.int .i64 a1_4] ?_); (with_reducible refine (spec_l9Address.calls a1_4 t169 _ A145.1).mono ?_); rintro e w' ⟨rfl, ⟨nd, rfl⟩⟩; refine ⟨_, rfl, ?_⟩; (try (rw [drewN_self wc]; generalize hq_ : World.drewN wc _ = wc; have n0_ : Aside0 (Kd.R (Kd.int .i64) 3 wc w.heap.size (fun _ => True) (.slice Ao14 t146.length co14) t146) := ⟨by rw [← hq_]; exact (zR HO_152000.1)⟩; have n1_ : Aside0 (wc.heap[gb143]? = some (.cells #[.slice (some ad156) l0_0.length c0_0, .int .i64 a0_1, .int .i64 a0_2] 29 (0, 0))) := ⟨by rw [← hq_]; exact (zK BK143.1)⟩; have n2_ : Aside0 (wc.heap[gb144]? = some (.cells #[.int .i64 a1_0, .int .i64 a1_1, .int .i64 a1_2, .int .i64 a1_3, .int .i64 a1_4] 59 (0, 0))) := ⟨by rw [← hq_]; exact (zK BK144.1)⟩; have n3_ : Aside0 (wc.heap[gb145]? = some (.cells #[.slice none 0 0, .int .i64 0, .int .i64 0] 29 (0, 0))) := ⟨by rw [← hq_]; exact (zK BK145.1)⟩; have n4_ : Aside0 (wc.heap[gb151]? = some (.cells #[.slice Ao14 t146.length co14, .int .i64 t154, .int .i64 t150] 29 (0, 0))) := ⟨by rw [← hq_]; exact (zK BK151.1)⟩; have n5_ : Aside0 (Below w.heap.size w wc) := ⟨by rw [← hq_]; exact zB0⟩; clear HO_152000 BK143 BK144 BK145 BK151 HB hq_; have HO_152000 := n0_; have BK143 := n1_; have BK144 := n2_; have BK145 := n3_; have BK151 := n4_; have HB := n5_; clear n0_ n1_ n2_ n3_ n4_ n5_)); have hnb150 := NB151_143.1; have hnc150 := NB143_151.1; have hnb151 := NB151_145.1; have hnc151 := NB145_151.1; have hcz152 := zc_3 (w := wc) BK151.1))
      go_meet
      case rel => exact ⟨_, ((-1)), (t146), (t169), (t150), (.slice Ao14 t146.length co14), zJJ, H', ⟨by have := HJ4.1; have := HJ54.1; first | omega | exact Nat.le_refl _⟩, ⟨by refine zrR ?_; exact Kd.R_mono (zfR (Kd.R_types HO_152000.1 BK151.1 (by decide))) (fun _ hk => trivial)⟩, ⟨by refine zP ?_; refine blk_far ?_ NB143_151.1 _; refine zP ?_; exact BK143.1⟩, ⟨by refine zP ?_; refine blk_far ?_ NB144_151.1 _; refine zP ?_; exact BK144.1⟩, ⟨by refine zP ?_; refine blk_far ?_ NB145_151.1 _; refine zP ?_; exact BK145.1⟩, ⟨by refine zP ?_; refine blk_put (cs := #[.slice Ao14 t146.length co14, .int .i64 t154, .int .i64 t150]) ?_ 1 _ rfl; refine zP ?_; exact BK151.1⟩, ⟨zB0⟩⟩
     case rest =>
      clear HC71
      try clear hf9
      try clear hf10
      try clear hf12
      try clear hf96
      try clear hf103
      try clear hf109
      try clear hf123
      obtain ⟨kq, x9_70, x152000_70, x152001_70, x152002_70, u152000, rfl, HA, HJ70, HO_152000, BK143, BK144, BK145, BK151, HB⟩ := hcut
      cases kq with
      | zero => exact absurd HA.1 (by simp [spec_Work.j2])
      | succ kj70 =>
       have H := HA.1
       clear HA
       simp only [spec_Work.j2] at H
       simp only [Option.some.injEq, Prod.mk.injEq] at H
       obtain ⟨rfl, rfl, rfl, rfl⟩ := H
       have hnb161 := NB151_143.1
       have hnc161 := NB143_151.1
       have hnb162 := NB151_144.1
       have hnc162 := NB144_151.1
       have hnb163 := NB151_145.1
       have hnc163 := NB145_151.1
       have hcz164 := zc_3 (w := wc) BK151.1
       obtain ⟨Ao165, co165, eo165⟩ := Kd.R_slice HO_152000.1
       subst eo165
       have hnb166 := NB145_143.1
       have hnc166 := NB143_145.1
       have hnb167 := NB145_144.1
       have hnc167 := NB144_145.1
       have hcz168 := zc_3 (w := wc) BK145.1
       go_wp2
       refine bodyPost_ret (results_ct rfl _ _ gb145 29 #[.slice Ao165 x152000_70.length co165, .int .i64 x152001_70, .int .i64 x152002_70] (0, 0) _ rfl (by exact zp3 (zK BK145.1)) Try.underlying29 rfl (by kernel_rfl)) rfl ?_
       exact ⟨_, zE, by refine zrR ?_; exact Kd.R_mono (zfR (zfR (zfR (Kd.R_types HO_152000.1 BK145.1 (by decide))))) (fun _ hk => trivial), zB0⟩

end Go.Proofs.Ytnjdepmlpdjghaa.PFnAllEnds
