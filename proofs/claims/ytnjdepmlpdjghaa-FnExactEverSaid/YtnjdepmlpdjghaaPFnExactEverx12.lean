-- made by wip/tools/myprint.py out of the seat's translation
import Derived.Test.YtnjdepmlpdjghaaPFnExactEverx0
import Derived.Test.YtnjdepmlpdjghaaPFnExactEverx10
import Derived.Test.YtnjdepmlpdjghaaPFnExactEverx11
namespace Go.Proofs.Ytnjdepmlpdjghaa.PFnExactEver
open Go.RowKit Go.Proofs.YtnjdepmlpdjghaaW.PrintWords Go.Proofs.YtnjdepmlpdjghaaW.PrintLast Go.Proofs.YtnjdepmlpdjghaaW.PrintMore
attribute [local go_sem] max2_int min2_int max_two min_two max_three min_three max_four min_four   -- for this text's walks alone
set_option linter.unusedVariables false
set_option linter.unusedSimpArgs false
set_option maxHeartbeats 8000000
set_option maxRecDepth 100000
abbrev zq12_0 : Array Bool := #[false, false, false, false, false, false, false, false, false, false]
abbrev zq12_1 : Array Bool := #[true, false, false, false, false, false, false, false, false, false]
abbrev zq12_2 : Array Bool := #[true, false, true, false, false, false, false, false, false, false]
abbrev zq12_3 : Array Bool := #[true, false, true, false, true, false, false, false, false, false]
abbrev zq12_4 : Array Bool := #[true, false, true, false, true, true, false, false, false, false]
abbrev zq12_5 : Array Bool := #[true, false, true, false, true, true, true, false, false, false]
abbrev zq12_6 : Array Bool := #[true, true, true, false, true, true, true, false, false, false]
abbrev zq12_7 : Array Bool := #[true, true, true, true, true, true, true, false, false, false]
abbrev zq12_8 : Array Bool := #[true, true, true, true, true, true, true, true, false, false]
abbrev zq12_9 : Array Bool := #[true, true, true, true, true, true, true, true, true, false]
abbrev zq12_10 : Array Bool := #[true, true, true, true, true, true, true, true, true, true]

/-! ### spec_Work: function 107 -/
mutual
def spec_Work.j0 : Nat → Int → Bool → List Int → Int → Int → Int → Int → Int → Int → Int → List Int → Int → Int → Option (List Int × Int × Int × Int)
 | 0, _, _, _, _, _, _, _, _, _, _, _, _, _ => none
 | k + 1, x2, x26, x326000, x326001, x326002, x327000, x327001, x327002, x327003, x327004, x334000, x334001, x334002 => if x26 = true then (some (x334000, x334001, x334002, (-1))) else ((spec_l9Address.f (wrap64 (x326001 + 1))).bind fun t336 => ((spec_InsOk.f x327000 x327001 x327002 x327003 x327004).bind fun t337 => (if t337 = true then (if 0 ≤ x327002 then (if x327002 < (x326000.length : Int) then (if 0 ≤ x327003 then (if x327003 < (x326000.length : Int) then (spec_Work.j1 k x2 (-1) (rd x326000 x327002) (rd x326000 x327003) x327000 x326000 x326001 x326002 x327000 x327001 x327002 x327003 x327004 x334000 t336 x334002) else (none)) else (none)) else (none)) else (none)) else (some (x334000, x326001, 2, (-1))))))
def spec_Work.j1 : Nat → Int → Int → Int → Int → Int → List Int → Int → Int → Int → Int → Int → Int → Int → List Int → Int → Int → Option (List Int × Int × Int × Int)
 | 0, _, _, _, _, _, _, _, _, _, _, _, _, _, _, _, _ => none
 | k + 1, x2, x9, x10, x11, x54, x326000, x326001, x326002, x327000, x327001, x327002, x327003, x327004, x334000, x334001, x334002 => if x54 = 1 then (if 0 ≤ x327001 then (if x327001 < (x334000.length : Int) then (spec_Work.j2 k x9 (x334000.set (x327001 : Int).toNat x327004) x334001 x334002) else (none)) else (none)) else (if x54 = 2 then ((spec_l9Word.f (wrap64 (x10 + x11))).bind fun t341 => (if 0 ≤ x327001 then (if x327001 < (x334000.length : Int) then (spec_Work.j2 k x9 (x334000.set (x327001 : Int).toNat t341) x334001 x334002) else (none)) else (none))) else (if x54 = 10 then ((spec_l9Word.f (wrap64 (x10 - x11))).bind fun t343 => (if 0 ≤ x327001 then (if x327001 < (x334000.length : Int) then (spec_Work.j2 k x9 (x334000.set (x327001 : Int).toNat t343) x334001 x334002) else (none)) else (none))) else (if x54 = 3 then ((spec_l9Word.f (wrap64 (x10 + x327004))).bind fun t345 => (if 0 ≤ x327001 then (if x327001 < (x334000.length : Int) then (spec_Work.j2 k x9 (x334000.set (x327001 : Int).toNat t345) x334001 x334002) else (none)) else (none))) else (if x54 = 4 then (if 0 ≤ x327001 then (if x327001 < (x334000.length : Int) then (spec_Work.j2 k x9 (x334000.set (x327001 : Int).toNat x2) x334001 x334002) else (none)) else (none)) else (if x54 = 5 then (spec_Work.j2 k x11 x334000 x334001 x334002) else (if x54 = 6 then (if 0 ≤ x327001 then (if x327001 < (x334000.length : Int) then ((spec_l9Word.f (wrap64 (x2 + x11))).bind fun t349 => (spec_Work.j2 k t349 (x334000.set (x327001 : Int).toNat x2) x334001 x334002)) else (none)) else (none)) else (if x54 = 7 then (if x10 = 0 then ((spec_l9Address.f x327004).bind fun t350 => (spec_Work.j2 k x9 x334000 t350 x334002)) else (spec_Work.j2 k x9 x334000 x334001 x334002)) else (if x54 = 8 then ((spec_l9Address.f x327004).bind fun t351 => (spec_Work.j2 k x9 x334000 t351 x334002)) else (if x54 = 9 then (spec_Work.j2 k x9 x334000 x326001 1) else (spec_Work.j2 k x9 x334000 x334001 x334002))))))))))
def spec_Work.j2 : Nat → Int → List Int → Int → Int → Option (List Int × Int × Int × Int)
 | 0, _, _, _, _ => none
 | k + 1, x9, x334000, x334001, x334002 => some (x334000, x334001, x334002, x9)
end
def spec_Work.f (k : Nat) (l0_0 : List Int) (a0_1 : Int) (a0_2 : Int) (a1_0 : Int) (a1_1 : Int) (a1_2 : Int) (a1_3 : Int) (a1_4 : Int) (a2 : Int) : Option (List Int × Int × Int × Int) := (spec_l9Copy.f l0_0 a0_1 a0_2).bind fun bt328 => ((spec_HartOk.f k l0_0 a0_1 a0_2).bind fun t334 => (if t334 = true then (if a0_2 = 0 then ((spec_l1In.f a2 0 65535).bind fun t335 => (spec_Work.j0 k a2 (!t335) l0_0 a0_1 a0_2 a1_0 a1_1 a1_2 a1_3 a1_4 bt328.1 bt328.2.1 bt328.2.2)) else (spec_Work.j0 k a2 true l0_0 a0_1 a0_2 a1_0 a1_1 a1_2 a1_3 a1_4 bt328.1 bt328.2.1 bt328.2.2)) else (spec_Work.j0 k a2 true l0_0 a0_1 a0_2 a1_0 a1_1 a1_2 a1_3 a1_4 bt328.1 bt328.2.1 bt328.2.2)))
theorem spec_Work.mono_l : ∀ k, (∀ y0 y1 y2 y3 y4 y5 y6 y7 y8 y9 y10 y11 y12, LeO (spec_Work.j0 k y0 y1 y2 y3 y4 y5 y6 y7 y8 y9 y10 y11 y12) (spec_Work.j0 (k + 1) y0 y1 y2 y3 y4 y5 y6 y7 y8 y9 y10 y11 y12)) ∧ (∀ y0 y1 y2 y3 y4 y5 y6 y7 y8 y9 y10 y11 y12 y13 y14 y15, LeO (spec_Work.j1 k y0 y1 y2 y3 y4 y5 y6 y7 y8 y9 y10 y11 y12 y13 y14 y15) (spec_Work.j1 (k + 1) y0 y1 y2 y3 y4 y5 y6 y7 y8 y9 y10 y11 y12 y13 y14 y15)) ∧ (∀ y0 y1 y2 y3, LeO (spec_Work.j2 k y0 y1 y2 y3) (spec_Work.j2 (k + 1) y0 y1 y2 y3))
 | 0 => ⟨fun _ _ _ _ _ _ _ _ _ _ _ _ _ r h => by simp [spec_Work.j0] at h, fun _ _ _ _ _ _ _ _ _ _ _ _ _ _ _ _ r h => by simp [spec_Work.j1] at h, fun _ _ _ _ r h => by simp [spec_Work.j2] at h⟩
 | k + 1 => by
  obtain ⟨ih0, ih1, ih2⟩ := spec_Work.mono_l k
  refine ⟨?_, ?_, ?_⟩
  ·intros
   unfold spec_Work.j0
   have mo0 := @spec_HartOk.mono
   exact zL
  ·intros
   unfold spec_Work.j1
   have mo0 := @spec_HartOk.mono
   exact zL
  ·intros
   unfold spec_Work.j2
   have mo0 := @spec_HartOk.mono
   exact zL
theorem spec_Work.mono : ∀ a0 a1 a2 a3 a4 a5 a6 a7 a8 k, LeO (spec_Work.f k a0 a1 a2 a3 a4 a5 a6 a7 a8) (spec_Work.f (k + 1) a0 a1 a2 a3 a4 a5 a6 a7 a8) := by
 intro a0 a1 a2 a3 a4 a5 a6 a7 a8 k
 obtain ⟨ih0, ih1, ih2⟩ := spec_Work.mono_l k
 unfold spec_Work.f
 have mo0 := @spec_HartOk.mono
 exact zL
def spec_Work.T10 : Bool × List (List Nat × List Nat) := (true, [([], []), ([0], [0]), ([], []), ([2], [2]), ([1, 3], [1, 3]), ([4], [4]), ([], []), ([6], [6]), ([], []), ([8], [8]), ([7, 9], [7, 9]), ([10], [10]), ([5, 0, 1, 2, 3, 4, 5], [5]), ([11, 12, 0, 1, 2, 3, 4, 5, 6, 7, 8, 9, 10, 11, 12], [11])])
def spec_Work.B10 : List Nat := [0, 1, 0, 4, 15, 31, 0, 64, 0, 256, 960, 1984, 63, 8191]
theorem spec_Work.tab10 : rtab .any (opsOf Try.f107 10) = spec_Work.T10 := by kernel_rfl
theorem spec_Work.bits10 : waitsOk spec_Work.T10.2 spec_Work.B10 = true := by kernel_rfl
def spec_Work.T15 : Bool × List (List Nat × List Nat) := (true, [([], []), ([0], [0]), ([], []), ([2], [2]), ([], []), ([], []), ([4, 5], [4, 5]), ([6], [6]), ([1, 3, 0, 1, 2, 3, 4, 5, 6, 7], [1, 3]), ([8, 7, 7, 0, 1, 2, 3, 4, 5, 6, 7], [7, 8])])
def spec_Work.B15 : List Nat := [0, 1, 0, 4, 0, 0, 48, 112, 255, 511]
theorem spec_Work.tab15 : rtab .any (opsOf Try.f107 15) = spec_Work.T15 := by kernel_rfl
theorem spec_Work.bits15 : waitsOk spec_Work.T15.2 spec_Work.B15 = true := by kernel_rfl
def spec_Work.T17 : Bool × List (List Nat × List Nat) := (true, [([], []), ([0], [0]), ([], []), ([2], [2]), ([], []), ([], []), ([4, 5], [4, 5]), ([6], [6]), ([1, 3, 0, 1, 2, 3, 4, 5, 6, 7], [1, 3]), ([8, 7, 7, 0, 1, 2, 3, 4, 5, 6, 7], [7, 8])])
def spec_Work.B17 : List Nat := [0, 1, 0, 4, 0, 0, 48, 112, 255, 511]
theorem spec_Work.tab17 : rtab .any (opsOf Try.f107 17) = spec_Work.T17 := by kernel_rfl
theorem spec_Work.bits17 : waitsOk spec_Work.T17.2 spec_Work.B17 = true := by kernel_rfl
def spec_Work.T19 : Bool × List (List Nat × List Nat) := (true, [([], []), ([0], [0]), ([], []), ([2], [2]), ([], []), ([], []), ([5], [5]), ([4, 6], [4, 6]), ([7], [7]), ([1, 3, 0, 1, 2, 3, 4, 5, 6, 7, 8], [1, 3]), ([9, 8, 8, 0, 1, 2, 3, 4, 5, 6, 7, 8], [8, 9])])
def spec_Work.B19 : List Nat := [0, 1, 0, 4, 0, 0, 32, 112, 240, 511, 1023]
theorem spec_Work.tab19 : rtab .any (opsOf Try.f107 19) = spec_Work.T19 := by kernel_rfl
theorem spec_Work.bits19 : waitsOk spec_Work.T19.2 spec_Work.B19 = true := by kernel_rfl
theorem spec_Work.calls (k : Nat) (A0_0 : Option Addr) (c0_0 : Nat) (l0_0 : List Int) (a0_1 : Int) (a0_2 : Int) (a1_0 : Int) (a1_1 : Int) (a1_2 : Int) (a1_3 : Int) (a1_4 : Int) (a2 : Int) (r1 : List Int) (r2 : Int) (r3 : Int) (r4 : Int) (w : World) (hr0_0 : Kd.C (Kd.int .i64) w A0_0 l0_0.length l0_0) (hc0_0 : l0_0.length ≤ c0_0) (h : spec_Work.f k l0_0 a0_1 a0_2 a1_0 a1_1 a1_2 a1_3 a1_4 a2 = some (r1, r2, r3, r4)) :
  Calls Try.prog 107 #[.agg #[.slice A0_0 l0_0.length c0_0, .int .i64 a0_1, .int .i64 a0_2], .agg #[.int .i64 a1_0, .int .i64 a1_1, .int .i64 a1_2, .int .i64 a1_3, .int .i64 a1_4], .int .i64 a2] w fun e w' => ∃ v0_ : Value, e = .returned (.tuple #[.agg #[v0_, .int .i64 r2, .int .i64 r3], .int .i64 r4]) ∧ Kd.R (Kd.int .i64) 3 w' w.heap.size (fun _ => True) v0_ r1 ∧ Below w.heap.size w w' := by
 have hu29 := Try.underlying29
 have hu59 := Try.underlying59
 have HR0_0 := zM hr0_0
 have HC0_0 := zM hc0_0
 clear hr0_0 hc0_0
 have HB := zM (Below.refl w.heap.size w)
 unfold spec_Work.f at h
 have H := h
 clear h
 replace H := zO H
 obtain ⟨⟨t328, t331, t332⟩, A4, H⟩ := H
 try dsimp only at H
 have HC5 := zM H
 clear H
 go_enter Try.func107, Try.ntmps107
 go_upto_region 2 with (first | ((with_reducible refine gate_dst (N := 3) rfl ?_); refine box_event ?hg (N := 3) ?hd (cs := #[.slice A0_0 l0_0.length c0_0, .int .i64 a0_1, .int .i64 a0_2]) (t := 29) ?hr ?_; (case hd => rfl); (case hg => rfl); (case hr => exact zHH); intro gb325 hg w6 hbox hb; have BK325 := zM hbox; have GW325 := zM (zW hg (below_size zB0)); have GE325 := zM (zW hg (below_size zB0)); replace HB := zM (below_step zB0 hb); clear hb hbox hg) | ((with_reducible refine gate_dst (N := 4) rfl ?_); refine box_event ?hg (N := 4) ?hd (cs := #[.int .i64 a1_0, .int .i64 a1_1, .int .i64 a1_2, .int .i64 a1_3, .int .i64 a1_4]) (t := 59) ?hr ?_; (case hd => rfl); (case hg => rfl); (case hr => exact zHH); intro gb326 hg w7 hbox hb; have BK326 := zM hbox; have GW326 := zM (zW hg (below_size zB38)); have GE326 := zM (zW hg (below_size zB38)); replace HB := zM (below_step zB38 hb); have NB325_326 := zM ((zn BK325.1 hg : gb325 ≠ gb326)); have NB326_325 := zM ((zm BK325.1 hg : gb326 ≠ gb325)); replace BK325 := zM (zb BK325.1 hb); clear hb hbox hg) | ((with_reducible refine gate_dst (N := 6) rfl ?_); refine box_event ?hg (N := 6) ?hd (cs := #[.slice none 0 0, .int .i64 0, .int .i64 0]) (t := 29) ?hr ?_; (case hd => rfl); (case hg => rfl); (case hr => exact zHH); intro gb327 hg w8 hbox hb; have BK327 := zM hbox; have GW327 := zM (zW hg (below_size zB39)); have GE327 := zM (zW hg (below_size zB39)); replace HB := zM (below_step zB39 hb); have NB325_327 := zM ((zn BK325.1 hg : gb325 ≠ gb327)); have NB327_325 := zM ((zm BK325.1 hg : gb327 ≠ gb325)); replace BK325 := zM (zb BK325.1 hb); have NB326_327 := zM ((zn BK326.1 hg : gb326 ≠ gb327)); have NB327_326 := zM ((zm BK326.1 hg : gb327 ≠ gb326)); replace BK326 := zM (zb BK326.1 hb); clear hb hbox hg; have hnb9 := NB325_326.1; have hnc9 := NB326_325.1; have hnb10 := NB325_327.1; have hnc10 := NB327_325.1; have hcz11 := zc_3 (w := w8) BK325.1) | ((with_reducible refine gate_callee (f := 104) rfl ?_); refine goesL_ (some 13) rfl rfl Try.func104 (by kernel_rfl) rfl #[.agg #[.slice A0_0 l0_0.length c0_0, .int .i64 a0_1, .int .i64 a0_2]] rfl zT ?_; (with_reducible refine (spec_l9Copy.calls _ _ l0_0 a0_1 a0_2 t328 t331 t332 _ ?side1 ?side2 A4.1).mono ?_); (case side1 => exact zC (Kd.C_below HR0_0.1 HB.1)); (case side2 => exact HC0_0.1); rintro e w12 ⟨v329, rfl, ho0, hb⟩; refine ⟨_, rfl, ?_⟩; have HO330 := zM (Kd.R_lower ho0 (below_size zB40)); replace BK325 := zM (zb BK325.1 hb); replace BK326 := zM (zb BK326.1 hb); replace BK327 := zM (zb BK327.1 hb); replace HB := zM (below_step zB40 hb); clear hb ho0) | ((with_reducible refine gate_dst (N := 8) rfl ?_); refine box_event ?hg (N := 8) ?hd (cs := #[.slice none 0 0, .int .i64 0, .int .i64 0]) (t := 29) ?hr ?_; (case hd => rfl); (case hg => rfl); (case hr => exact zHH); intro gb333 hg w13 hbox hb; replace HO330 := zM (Kd.R_below (zR HO330.1) hb); have BK333 := zM hbox; have GW333 := zM (zW hg (below_size zB40)); have GE333 := zM (zW hg (below_size zB40)); replace HB := zM (below_step zB40 hb); have NB325_333 := zM ((zn BK325.1 hg : gb325 ≠ gb333)); have NB333_325 := zM ((zm BK325.1 hg : gb333 ≠ gb325)); replace BK325 := zM (zb BK325.1 hb); have NB326_333 := zM ((zn BK326.1 hg : gb326 ≠ gb333)); have NB333_326 := zM ((zm BK326.1 hg : gb333 ≠ gb326)); replace BK326 := zM (zb BK326.1 hb); have NB327_333 := zM ((zn BK327.1 hg : gb327 ≠ gb333)); have NB333_327 := zM ((zm BK327.1 hg : gb333 ≠ gb327)); replace BK327 := zM (zb BK327.1 hb); clear hb hbox hg; obtain ⟨Ao14, co14, eo14⟩ := Kd.R_slice HO330.1; subst eo14; have hnb15 := NB333_325.1; have hnc15 := NB325_333.1; have hnb16 := NB333_326.1; have hnc16 := NB326_333.1; have hnb17 := NB333_327.1; have hnc17 := NB327_333.1; have hcz18 := zc_3 (w := w13) BK333.1))
 (try simp only [Act.put, List.setIfInBounds_toArray, List.set_cons_zero, List.set_cons_succ])
 go_cut [26] (fun v26 wc => ∃ (kq : Nat) (x26_4 : Bool), v26 = .bool x26_4 ∧ Aside0 (spec_Work.j0 kq a2 x26_4 l0_0 a0_1 a0_2 a1_0 a1_1 a1_2 a1_3 a1_4 t328 t331 t332 = some (r1, r2, r3, r4)) ∧ Aside0 (kq ≤ k) ∧ Aside0 (Kd.R (Kd.int .i64) 3 wc w.heap.size (fun _ => True) (.slice Ao14 t328.length co14) t328) ∧ Aside0 (wc.heap[gb325]? = some (.cells #[(.slice A0_0 l0_0.length c0_0), .int .i64 a0_1, .int .i64 a0_2] 29 (0, 0))) ∧ Aside0 (wc.heap[gb326]? = some (.cells #[.int .i64 a1_0, .int .i64 a1_1, .int .i64 a1_2, .int .i64 a1_3, .int .i64 a1_4] 59 (0, 0))) ∧ Aside0 (wc.heap[gb327]? = some (.cells #[(.slice none 0 0), .int .i64 0, .int .i64 0] 29 (0, 0))) ∧ Aside0 (wc.heap[gb333]? = some (.cells #[(.slice Ao14 t328.length co14), .int .i64 t331, .int .i64 t332] 29 (0, 0))) ∧ Aside0 (Below w.heap.size w wc))
 case first =>
  have H := HC5.1
  clear HC5
  replace H := zO H
  obtain ⟨t334, A19, H⟩ := H
  by_cases c20 : t334 = true
  rotate_left
  ·replace c20 := Bool.eq_false_iff.mpr c20
   subst c20
   rw [if_neg zF] at H
   have H' := zM H
   clear H
   have hnb35 := NB325_326.1
   have hnc35 := NB326_325.1
   have hnb36 := NB325_327.1
   have hnc36 := NB327_325.1
   have hnb37 := NB325_333.1
   have hnc37 := NB333_325.1
   have hcz38 := zc_3 (w := w13) BK325.1
   go_wp2_with (first | ((with_reducible refine gate_callee (f := 52) rfl ?_); refine goesL_ (some 15) rfl rfl Try.func52 (by kernel_rfl) rfl #[.agg #[.slice A0_0 l0_0.length c0_0, .int .i64 a0_1, .int .i64 a0_2]] rfl zT ?_; (with_reducible refine (spec_HartOk.calls k _ _ l0_0 a0_1 a0_2 false _ ?side1 ?side2 A19.1).mono ?_); (case side1 => exact Kd.C_below HR0_0.1 zB41); (case side2 => exact HC0_0.1); rintro e w39 ⟨rfl, hb⟩; refine ⟨_, rfl, ?_⟩; replace HO330 := zM (Kd.R_below (by refine zrR ?_; exact (Kd.R_mono (Kd.R_far (p := ⟨gb333, 2, none⟩) (Kd.R_far (p := ⟨gb333, 1, none⟩) (Kd.R_far (p := ⟨gb333, 0, none⟩) (Kd.R_types HO330.1 BK333.1 (by decide)) (fun _ hk => hk.2) (.slice Ao14 t328.length co14)) (fun _ hk => hk.2) (.int .i64 t331)) (fun _ hk => hk.2) (.int .i64 t332)) (fun _ h_ => h_.1))) hb); replace BK325 := zM (zf BK325.1 hb); replace BK326 := zM (zf BK326.1 hb); replace BK327 := zM (zf BK327.1 hb); replace BK333 := zM (blk_below (g := gb333) (o := .cells #[.slice Ao14 t328.length co14, .int .i64 t331, .int .i64 t332] 29 (0, 0)) (by exact zp3 (zK BK333.1)) hb); replace HB := zM (below_step zB41 hb); clear hb))
   go_meet
   case rel => exact ⟨_, (true), zJJ, H', ⟨by first | omega | exact Nat.le_refl _⟩, ⟨zR HO330.1⟩, ⟨zK BK325.1⟩, ⟨zK BK326.1⟩, ⟨zK BK327.1⟩, ⟨zK BK333.1⟩, ⟨zB41⟩⟩
  subst c20
  rw [if_pos rfl] at H
  by_cases c21 : a0_2 = 0
  rotate_left
  ·rw [if_neg c21] at H
   have c21b0 : (a0_2 == 0) = false := beq_eq_false_iff_ne.mpr c21
   have c21b1 : (a0_2 != 0) = true := bne_iff_ne.mpr c21
   (first | rw [c21b0] | (simp only [i64_w, i32_w]; rw [c21b0]) | skip)
   have H' := zM H
   clear H
   have hnb29 := NB325_326.1
   have hnc29 := NB326_325.1
   have hnb30 := NB325_327.1
   have hnc30 := NB327_325.1
   have hnb31 := NB325_333.1
   have hnc31 := NB333_325.1
   have hcz32 := zc_3 (w := w13) BK325.1
   go_wp2_with (first | ((with_reducible refine gate_callee (f := 52) rfl ?_); refine goesL_ (some 15) rfl rfl Try.func52 (by kernel_rfl) rfl #[.agg #[.slice A0_0 l0_0.length c0_0, .int .i64 a0_1, .int .i64 a0_2]] rfl zT ?_; (with_reducible refine (spec_HartOk.calls k _ _ l0_0 a0_1 a0_2 true _ ?side1 ?side2 A19.1).mono ?_); (case side1 => exact Kd.C_below HR0_0.1 zB41); (case side2 => exact HC0_0.1); rintro e w33 ⟨rfl, hb⟩; refine ⟨_, rfl, ?_⟩; replace HO330 := zM (Kd.R_below (by refine zrR ?_; exact (Kd.R_mono (Kd.R_far (p := ⟨gb333, 2, none⟩) (Kd.R_far (p := ⟨gb333, 1, none⟩) (Kd.R_far (p := ⟨gb333, 0, none⟩) (Kd.R_types HO330.1 BK333.1 (by decide)) (fun _ hk => hk.2) (.slice Ao14 t328.length co14)) (fun _ hk => hk.2) (.int .i64 t331)) (fun _ hk => hk.2) (.int .i64 t332)) (fun _ h_ => h_.1))) hb); replace BK325 := zM (zf BK325.1 hb); replace BK326 := zM (zf BK326.1 hb); replace BK327 := zM (zf BK327.1 hb); replace BK333 := zM (blk_below (g := gb333) (o := .cells #[.slice Ao14 t328.length co14, .int .i64 t331, .int .i64 t332] 29 (0, 0)) (by exact zp3 (zK BK333.1)) hb); replace HB := zM (below_step zB41 hb); clear hb; have hcz34 := zc_3 (w := w33) BK325.1))
   go_meet
   case rel => exact ⟨_, (true), zJJ, H', ⟨by first | omega | exact Nat.le_refl _⟩, ⟨zR HO330.1⟩, ⟨zK BK325.1⟩, ⟨zK BK326.1⟩, ⟨zK BK327.1⟩, ⟨zK BK333.1⟩, ⟨zB41⟩⟩
  rw [if_pos c21] at H
  have c21b0 : (a0_2 == 0) = true := beq_iff_eq.mpr c21
  have c21b1 : (a0_2 != 0) = false := bne_eq_false_iff_eq.mpr c21
  clear c21
  (first | rw [c21b0] | (simp only [i64_w, i32_w]; rw [c21b0]) | skip)
  replace H := zO H
  obtain ⟨t335, A22, H⟩ := H
  have H' := zM H
  clear H
  have hnb23 := NB325_326.1
  have hnc23 := NB326_325.1
  have hnb24 := NB325_327.1
  have hnc24 := NB327_325.1
  have hnb25 := NB325_333.1
  have hnc25 := NB333_325.1
  have hcz26 := zc_3 (w := w13) BK325.1
  go_wp2_with (first | ((with_reducible refine gate_callee (f := 52) rfl ?_); refine goesL_ (some 15) rfl rfl Try.func52 (by kernel_rfl) rfl #[.agg #[.slice A0_0 l0_0.length c0_0, .int .i64 a0_1, .int .i64 a0_2]] rfl zT ?_; (with_reducible refine (spec_HartOk.calls k _ _ l0_0 a0_1 a0_2 true _ ?side1 ?side2 A19.1).mono ?_); (case side1 => exact Kd.C_below HR0_0.1 zB41); (case side2 => exact HC0_0.1); rintro e w27 ⟨rfl, hb⟩; refine ⟨_, rfl, ?_⟩; replace HO330 := zM (Kd.R_below (by refine zrR ?_; exact (Kd.R_mono (Kd.R_far (p := ⟨gb333, 2, none⟩) (Kd.R_far (p := ⟨gb333, 1, none⟩) (Kd.R_far (p := ⟨gb333, 0, none⟩) (Kd.R_types HO330.1 BK333.1 (by decide)) (fun _ hk => hk.2) (.slice Ao14 t328.length co14)) (fun _ hk => hk.2) (.int .i64 t331)) (fun _ hk => hk.2) (.int .i64 t332)) (fun _ h_ => h_.1))) hb); replace BK325 := zM (zf BK325.1 hb); replace BK326 := zM (zf BK326.1 hb); replace BK327 := zM (zf BK327.1 hb); replace BK333 := zM (blk_below (g := gb333) (o := .cells #[.slice Ao14 t328.length co14, .int .i64 t331, .int .i64 t332] 29 (0, 0)) (by exact zp3 (zK BK333.1)) hb); replace HB := zM (below_step zB41 hb); clear hb; have hcz28 := zc_3 (w := w27) BK325.1) | (go_at_call 49; (with_reducible refine (spec_l1In.calls a2 0 65535 t335 _ A22.1).mono ?_); rintro e w' ⟨rfl, ⟨nd, rfl⟩⟩))
  go_meet
  case rel => exact ⟨_, (!t335), zJJ, H', ⟨by first | omega | exact Nat.le_refl _⟩, ⟨zR HO330.1⟩, ⟨zK BK325.1⟩, ⟨zK BK326.1⟩, ⟨zK BK327.1⟩, ⟨zK BK333.1⟩, ⟨zB41⟩⟩
 case rest =>
  clear HC5
  try clear c1
  try clear c2
  try clear p2
  try clear c3
  try clear c5
  try clear c9
  try clear c10
  try clear c15
  try clear c16
  try clear c17
  try clear c20
  try clear c21
  try clear c21b0
  try clear c21b1
  try clear c23
  try clear c24
  try clear c25
  try clear c29
  try clear c30
  try clear c31
  try clear c35
  try clear c36
  try clear c37
  try clear hcz11
  try clear hcz18
  try clear hcz26
  try clear hcz28
  try clear hcz32
  try clear hcz34
  try clear hcz38
  obtain ⟨kq, x26_4, rfl, HA, HJ4, HO_334000, BK325, BK326, BK327, BK333, HB⟩ := hcut
  cases kq with
  | zero => exact absurd HA.1 (by simp [spec_Work.j0])
  | succ kj4 =>
   have H := HA.1
   clear HA
   simp only [spec_Work.j0] at H
   by_cases c40 : x26_4 = true
   ·subst c40
    rw [if_pos rfl] at H
    simp only [Option.some.injEq, Prod.mk.injEq] at H
    obtain ⟨rfl, rfl, rfl, rfl⟩ := H
    have hnb41 := NB333_325.1
    have hnc41 := NB325_333.1
    have hnb42 := NB333_326.1
    have hnc42 := NB326_333.1
    have hnb43 := NB333_327.1
    have hnc43 := NB327_333.1
    have hcz44 := zc_3 (w := wc) BK333.1
    have hnb45 := NB327_325.1
    have hnc45 := NB325_327.1
    have hnb46 := NB327_326.1
    have hnc46 := NB326_327.1
    have hcz47 := zc_3 (w := wc) BK327.1
    go_wp2
    refine bodyPost_ret (results_ct rfl _ _ gb327 29 #[.slice Ao14 t328.length co14, .int .i64 t331, .int .i64 t332] (0, 0) _ rfl (by exact zp3 (zK BK327.1)) Try.underlying29 rfl (by kernel_rfl)) rfl ?_
    exact ⟨_, zE, by refine zrR ?_; exact Kd.R_mono (Kd.R_far (p := ⟨gb327, 2, none⟩) (Kd.R_far (p := ⟨gb327, 1, none⟩) (Kd.R_far (p := ⟨gb327, 0, none⟩) (Kd.R_types HO_334000.1 BK327.1 (by decide)) (fun _ hk => hk.2) (.slice Ao14 t328.length co14)) (fun _ hk => hk.2) (.int .i64 t331)) (fun _ hk => hk.2) (.int .i64 t332)) (fun _ hk => trivial), zB41⟩
   replace c40 := Bool.eq_false_iff.mpr c40
   subst c40
   rw [if_neg zF] at H
   replace H := zO H
   obtain ⟨t336, A48, H⟩ := H
   replace H := zO H
   obtain ⟨t337, A49, H⟩ := H
   by_cases c50 : t337 = true
   rotate_left
   ·replace c50 := Bool.eq_false_iff.mpr c50
    subst c50
    rw [if_neg zF] at H
    simp only [Option.some.injEq, Prod.mk.injEq] at H
    obtain ⟨rfl, rfl, rfl, rfl⟩ := H
    have hnb169 := NB325_326.1
    have hnc169 := NB326_325.1
    have hnb170 := NB325_327.1
    have hnc170 := NB327_325.1
    have hnb171 := NB325_333.1
    have hnc171 := NB333_325.1
    have hcz172 := zc_3 (w := wc) BK325.1
    go_wp2_with (first | ((with_reducible refine gate_callee (f := 125) rfl ?_); refine goesL_ (some 31) rfl rfl Try.func125 (by kernel_rfl) rfl #[.int .i64 (wrap64 (a0_1 + 1))] rfl zT ?_; (with_reducible refine (spec_l9Address.calls (wrap64 (a0_1 + 1)) t336 _ A48.1).mono ?_); rintro e w' ⟨rfl, ⟨nd, rfl⟩⟩; refine ⟨_, rfl, ?_⟩; (try (rw [drewN_self wc]; generalize hq_ : World.drewN wc _ = wc; have n0_ : Aside0 (Kd.R (Kd.int .i64) 3 wc w.heap.size (fun _ => True) (.slice Ao14 t328.length co14) t328) := ⟨by rw [← hq_]; exact (zR HO_334000.1)⟩; have n1_ : Aside0 (wc.heap[gb325]? = some (.cells #[.slice A0_0 l0_0.length c0_0, .int .i64 a0_1, .int .i64 a0_2] 29 (0, 0))) := ⟨by rw [← hq_]; exact (zK BK325.1)⟩; have n2_ : Aside0 (wc.heap[gb326]? = some (.cells #[.int .i64 a1_0, .int .i64 a1_1, .int .i64 a1_2, .int .i64 a1_3, .int .i64 a1_4] 59 (0, 0))) := ⟨by rw [← hq_]; exact (zK BK326.1)⟩; have n3_ : Aside0 (wc.heap[gb327]? = some (.cells #[.slice none 0 0, .int .i64 0, .int .i64 0] 29 (0, 0))) := ⟨by rw [← hq_]; exact (zK BK327.1)⟩; have n4_ : Aside0 (wc.heap[gb333]? = some (.cells #[.slice Ao14 t328.length co14, .int .i64 t331, .int .i64 t332] 29 (0, 0))) := ⟨by rw [← hq_]; exact (zK BK333.1)⟩; have n5_ : Aside0 (Below w.heap.size w wc) := ⟨by rw [← hq_]; exact zB41⟩; clear HO_334000 BK325 BK326 BK327 BK333 HB hq_; have HO_334000 := n0_; have BK325 := n1_; have BK326 := n2_; have BK327 := n3_; have BK333 := n4_; have HB := n5_; clear n0_ n1_ n2_ n3_ n4_ n5_)); have hnb173 := NB333_326.1; have hnc173 := NB326_333.1; have hnb174 := NB333_327.1; have hnc174 := NB327_333.1; have hcz175 := zc_3 (w := wc) BK333.1; have hnb176 := NB326_327.1; have hnc176 := NB327_326.1; have hcz177 := zc_5 (w := wc) BK326.1) | ((with_reducible refine gate_callee (f := 124) rfl ?_); refine goesL_ (some 34) rfl rfl Try.func124 (by kernel_rfl) rfl #[.agg #[.int .i64 a1_0, .int .i64 a1_1, .int .i64 a1_2, .int .i64 a1_3, .int .i64 a1_4]] rfl zT ?_; (with_reducible refine (spec_InsOk.calls a1_0 a1_1 a1_2 a1_3 a1_4 false _ A49.1).mono ?_); rintro e w178 ⟨rfl, hb⟩; refine ⟨_, rfl, ?_⟩; replace HO_334000 := zM (Kd.R_below (by refine zrR ?_; exact (Kd.R_mono (Kd.R_far (p := ⟨gb333, 1, none⟩) (Kd.R_types HO_334000.1 BK333.1 (by decide)) (fun _ hk => hk.2) (.int .i64 t336)) (fun _ h_ => h_.1))) hb); replace BK325 := zM (zf BK325.1 hb); replace BK326 := zM (zf BK326.1 hb); replace BK327 := zM (zf BK327.1 hb); replace BK333 := zM (blk_below (g := gb333) (o := .cells #[.slice Ao14 t328.length co14, .int .i64 t336, .int .i64 t332] 29 (0, 0)) (by refine zP ?_; refine blk_put (cs := #[.slice Ao14 t328.length co14, .int .i64 t331, .int .i64 t332]) ?_ 1 _ rfl; refine zP ?_; exact BK333.1) hb); replace HB := zM (below_step zB41 hb); clear hb; have hcz179 := zc_3 (w := w178) BK325.1; have hcz180 := zc_3 (w := w178) BK333.1; have hcz181 := zc_3 (w := w178) BK327.1))
    refine bodyPost_ret (results_ct rfl _ _ gb327 29 #[.slice Ao14 t328.length co14, .int .i64 a0_1, .int .i64 2] (0, 0) _ rfl (by refine zP ?_; refine blk_put (cs := #[.slice Ao14 t328.length co14, .int .i64 a0_1, .int .i64 0]) ?_ 2 _ rfl; refine zP ?_; refine blk_put (cs := #[.slice Ao14 t328.length co14, .int .i64 0, .int .i64 0]) ?_ 1 _ rfl; refine zP ?_; refine blk_put (cs := #[.slice none 0 0, .int .i64 0, .int .i64 0]) ?_ 0 _ rfl; refine zP ?_; refine blk_far ?_ NB327_333.1 _; refine zP ?_; refine blk_far ?_ NB327_333.1 _; refine zP ?_; exact BK327.1) Try.underlying29 rfl (by kernel_rfl)) rfl ?_
    exact ⟨_, zE, by refine zrR ?_; exact Kd.R_mono (Kd.R_far (p := ⟨gb327, 2, none⟩) (Kd.R_far (p := ⟨gb327, 1, none⟩) (Kd.R_far (p := ⟨gb327, 0, none⟩) (Kd.R_far (p := ⟨gb333, 2, none⟩) (Kd.R_far (p := ⟨gb333, 1, none⟩) (Kd.R_types (Kd.R_types HO_334000.1 BK333.1 (by decide)) BK327.1 (by decide)) (fun _ hk => hk.1.2) (.int .i64 a0_1)) (fun _ hk => hk.1.2) (.int .i64 2)) (fun _ hk => hk.2) (.slice Ao14 t328.length co14)) (fun _ hk => hk.2) (.int .i64 a0_1)) (fun _ hk => hk.2) (.int .i64 2)) (fun _ hk => trivial), zB41⟩
   subst c50
   rw [if_pos rfl] at H
   by_cases c51 : 0 ≤ a1_2
   rotate_left
   ·rw [if_neg c51] at H
    exact absurd H (by simp)
   rw [if_pos c51] at H
   have c51b0 := decide_eq_true c51
   clear c51
   by_cases c52 : a1_2 < (l0_0.length : Int)
   rotate_left
   ·rw [if_neg c52] at H
    exact absurd H (by simp)
   rw [if_pos c52] at H
   have c52b0 := decide_eq_true c52
   clear c52
   by_cases c53 : 0 ≤ a1_3
   rotate_left
   ·rw [if_neg c53] at H
    exact absurd H (by simp)
   rw [if_pos c53] at H
   have c53b0 := decide_eq_true c53
   clear c53
   by_cases c54 : a1_3 < (l0_0.length : Int)
   rotate_left
   ·rw [if_neg c54] at H
    exact absurd H (by simp)
   rw [if_pos c54] at H
   have c54b0 := decide_eq_true c54
   clear c54
   have HC55 := zM H
   clear H
   have hnb56 := NB325_326.1
   have hnc56 := NB326_325.1
   have hnb57 := NB325_327.1
   have hnc57 := NB327_325.1
   have hnb58 := NB325_333.1
   have hnc58 := NB333_325.1
   have hcz59 := zc_3 (w := wc) BK325.1
   try go_wp2_with (first | ((with_reducible refine gate_callee (f := 125) rfl ?_); refine goesL_ (some 31) rfl rfl Try.func125 (by kernel_rfl) rfl #[.int .i64 (wrap64 (a0_1 + 1))] rfl zT ?_; (with_reducible refine (spec_l9Address.calls (wrap64 (a0_1 + 1)) t336 _ A48.1).mono ?_); rintro e w' ⟨rfl, ⟨nd, rfl⟩⟩; refine ⟨_, rfl, ?_⟩; (try (rw [drewN_self wc]; generalize hq_ : World.drewN wc _ = wc; have n0_ : Aside0 (Kd.R (Kd.int .i64) 3 wc w.heap.size (fun _ => True) (.slice Ao14 t328.length co14) t328) := ⟨by rw [← hq_]; exact (zR HO_334000.1)⟩; have n1_ : Aside0 (wc.heap[gb325]? = some (.cells #[.slice A0_0 l0_0.length c0_0, .int .i64 a0_1, .int .i64 a0_2] 29 (0, 0))) := ⟨by rw [← hq_]; exact (zK BK325.1)⟩; have n2_ : Aside0 (wc.heap[gb326]? = some (.cells #[.int .i64 a1_0, .int .i64 a1_1, .int .i64 a1_2, .int .i64 a1_3, .int .i64 a1_4] 59 (0, 0))) := ⟨by rw [← hq_]; exact (zK BK326.1)⟩; have n3_ : Aside0 (wc.heap[gb327]? = some (.cells #[.slice none 0 0, .int .i64 0, .int .i64 0] 29 (0, 0))) := ⟨by rw [← hq_]; exact (zK BK327.1)⟩; have n4_ : Aside0 (wc.heap[gb333]? = some (.cells #[.slice Ao14 t328.length co14, .int .i64 t331, .int .i64 t332] 29 (0, 0))) := ⟨by rw [← hq_]; exact (zK BK333.1)⟩; have n5_ : Aside0 (Below w.heap.size w wc) := ⟨by rw [← hq_]; exact zB41⟩; clear HO_334000 BK325 BK326 BK327 BK333 HB hq_; have HO_334000 := n0_; have BK325 := n1_; have BK326 := n2_; have BK327 := n3_; have BK333 := n4_; have HB := n5_; clear n0_ n1_ n2_ n3_ n4_ n5_)); have hnb60 := NB333_326.1; have hnc60 := NB326_333.1; have hnb61 := NB333_327.1; have hnc61 := NB327_333.1; have hcz62 := zc_3 (w := wc) BK333.1; have hnb63 := NB326_327.1; have hnc63 := NB327_326.1; have hcz64 := zc_5 (w := wc) BK326.1) | ((with_reducible refine gate_callee (f := 124) rfl ?_); refine goesL_ (some 34) rfl rfl Try.func124 (by kernel_rfl) rfl #[.agg #[.int .i64 a1_0, .int .i64 a1_1, .int .i64 a1_2, .int .i64 a1_3, .int .i64 a1_4]] rfl zT ?_; (with_reducible refine (spec_InsOk.calls a1_0 a1_1 a1_2 a1_3 a1_4 true _ A49.1).mono ?_); rintro e w65 ⟨rfl, hb⟩; refine ⟨_, rfl, ?_⟩; replace HO_334000 := zM (Kd.R_below (by refine zrR ?_; exact (Kd.R_mono (Kd.R_far (p := ⟨gb333, 1, none⟩) (Kd.R_types HO_334000.1 BK333.1 (by decide)) (fun _ hk => hk.2) (.int .i64 t336)) (fun _ h_ => h_.1))) hb); replace BK325 := zM (zf BK325.1 hb); replace BK326 := zM (zf BK326.1 hb); replace BK327 := zM (zf BK327.1 hb); replace BK333 := zM (blk_below (g := gb333) (o := .cells #[.slice Ao14 t328.length co14, .int .i64 t336, .int .i64 t332] 29 (0, 0)) (by refine zP ?_; refine blk_put (cs := #[.slice Ao14 t328.length co14, .int .i64 t331, .int .i64 t332]) ?_ 1 _ rfl; refine zP ?_; exact BK333.1) hb); replace HB := zM (below_step zB41 hb); clear hb))
   replace HO_334000 := zM (Kd.R_drew HO_334000.1)
   replace BK325 := zM (blk_drew BK325.1)
   replace BK326 := zM (blk_drew BK326.1)
   replace BK327 := zM (blk_drew BK327.1)
   replace BK333 := zM (blk_drew BK333.1)
   replace HB := zM (below_drew1 HB.1)
   have p338 : 0 ≤ (a1_2 : Int) := zA
   have q338 : a1_2 < (l0_0.length : Int) := zA
   obtain ⟨ad338, e338, hx338_0⟩ := Kd.at_int HR0_0.1 a1_2 p338 q338
   have hw338_0 := hx338_0
   cases e338
   replace hx338_0 := (HB.1.cell (World.block_lt_of_cell? w _ hx338_0)).trans hx338_0
   replace p338 := eq_true p338
   replace q338 := eq_true q338
   have p339 : 0 ≤ (a1_3 : Int) := zA
   have q339 : a1_3 < (l0_0.length : Int) := zA
   obtain ⟨ad339, e339, hx339_0⟩ := Kd.at_int HR0_0.1 a1_3 p339 q339
   have hw339_0 := hx339_0
   obtain rfl : ad338 = ad339 := (by injection e339)
   replace hx339_0 := (HB.1.cell (World.block_lt_of_cell? w _ hx339_0)).trans hx339_0
   replace p339 := eq_true p339
   replace q339 := eq_true q339
   refine start_ (n := 14) (S := fun w' => w'.cell? ⟨gb325, 0, none⟩ = some (.slice (some ad338) l0_0.length c0_0) ∧ w'.cell? ⟨gb325, 1, none⟩ = some (.int .i64 a0_1) ∧ w'.cell? ⟨gb325, 2, none⟩ = some (.int .i64 a0_2) ∧ w'.cell? ⟨gb326, 0, none⟩ = some (.int .i64 a1_0) ∧ w'.cell? ⟨gb326, 1, none⟩ = some (.int .i64 a1_1) ∧ w'.cell? ⟨gb326, 2, none⟩ = some (.int .i64 a1_2) ∧ w'.cell? ⟨gb326, 3, none⟩ = some (.int .i64 a1_3) ∧ w'.cell? ⟨gb326, 4, none⟩ = some (.int .i64 a1_4) ∧ w'.cell? (ad338.add (a1_2).toNat) = some (.int .i64 (rd l0_0 a1_2)) ∧ w'.cell? (ad338.add (a1_3).toNat) = some (.int .i64 (rd l0_0 a1_3))) (ds := []) #[false, false, false, false, false, false, false, false, false, false, false, false, false, false] (by kernel_rfl) rfl rfl ⟨(blk_cell BK325.1 0).trans rfl, (blk_cell BK325.1 1).trans rfl, (blk_cell BK325.1 2).trans rfl, (blk_cell BK326.1 0).trans rfl, (blk_cell BK326.1 1).trans rfl, (blk_cell BK326.1 2).trans rfl, (blk_cell BK326.1 3).trans rfl, (blk_cell BK326.1 4).trans rfl, ((HB.1.cell (World.block_lt_of_cell? w _ hw338_0)).trans hw338_0), ((HB.1.cell (World.block_lt_of_cell? w _ hw339_0)).trans hw339_0)⟩ (fun hHeld => ?_); refine with_tabW spec_Work.tab10 spec_Work.bits10 (fun HT_ HW_ => ?_)
   generalize w65.drew = w66 at HO_334000 BK325 BK326 BK327 BK333 HB hx338_0 hx339_0 hHeld ⊢
   refine pure_ (i := 0) (N := some 41) (v := ?_) (a' := ?_) #[true, false, false, false, false, false, false, false, false, false, false, false, false, false] rfl rfl (any_of HT_.1 (by kernel_rfl)) (fun _ _ _ h => h) (Or.inl ⟨by rfl, ?_⟩) ?_ ?_
   rotate_left
   ·intro w'
    go_simp
    with_reducible rfl
   rotate_left
   ·exact zV
   refine pure_ (i := 2) (N := some 43) (v := ?_) (a' := ?_) #[true, false, true, false, false, false, false, false, false, false, false, false, false, false] rfl rfl (any_of HT_.1 (by kernel_rfl)) (fun _ _ _ h => h) (Or.inl ⟨by rfl, ?_⟩) ?_ ?_
   rotate_left
   ·intro w'
    go_simp
    with_reducible rfl
   rotate_left
   ·exact zV
   refine pure_ (i := 6) (N := some 47) (v := ?_) (a' := ?_) #[true, false, true, false, false, false, true, false, false, false, false, false, false, false] rfl rfl (any_of HT_.1 (by kernel_rfl)) (fun _ _ _ h => h) (Or.inl ⟨by rfl, ?_⟩) ?_ ?_
   rotate_left
   ·intro w'
    go_simp
    with_reducible rfl
   rotate_left
   ·exact zV
   refine pure_ (i := 8) (N := some 49) (v := ?_) (a' := ?_) #[true, false, true, false, false, false, true, false, true, false, false, false, false, false] rfl rfl (any_of HT_.1 (by kernel_rfl)) (fun _ _ _ h => h) (Or.inl ⟨by rfl, ?_⟩) ?_ ?_
   rotate_left
   ·intro w'
    go_simp
    with_reducible rfl
   rotate_left
   ·exact zV
   refine take_ (i := 1) (N := some 42) (v := ?_) (a' := ?_) #[true, true, true, false, false, false, true, false, true, false, false, false, false, false] rfl rfl (take_ofW HT_.1 HW_.1 (by kernel_rfl)) (fun _ _ _ h => h) (Or.inl ⟨by rfl, ?_⟩) hHeld ?_ ?_
   rotate_left
   ·rintro w' ⟨s0, s1, s2, s3, s4, s5, s6, s7, s8, s9⟩
    go_simp
    with_reducible rfl
   rotate_left
   ·exact zV
   refine take_ (i := 3) (N := some 44) (v := ?_) (a' := ?_) #[true, true, true, true, false, false, true, false, true, false, false, false, false, false] rfl rfl (take_ofW HT_.1 HW_.1 (by kernel_rfl)) (fun _ _ _ h => h) (Or.inl ⟨by rfl, ?_⟩) hHeld ?_ ?_
   rotate_left
   ·rintro w' ⟨s0, s1, s2, s3, s4, s5, s6, s7, s8, s9⟩
    go_simp
    with_reducible rfl
   rotate_left
   ·exact zV
   refine pure_ (i := 4) (N := some 45) (v := ?_) (a' := ?_) #[true, true, true, true, true, false, true, false, true, false, false, false, false, false] rfl rfl (any_of HT_.1 (by kernel_rfl)) (fun _ _ _ h => h) (Or.inl ⟨by rfl, ?_⟩) ?_ ?_
   rotate_left
   ·intro w'
    go_simp
    with_reducible rfl
   rotate_left
   ·exact zV
   refine take_ (i := 5) (N := some 46) (v := ?_) (a' := ?_) #[true, true, true, true, true, true, true, false, true, false, false, false, false, false] rfl rfl (take_ofW HT_.1 HW_.1 (by kernel_rfl)) (fun _ _ _ h => h) (Or.inl ⟨by rfl, ?_⟩) hHeld ?_ ?_
   rotate_left
   ·rintro w' ⟨s0, s1, s2, s3, s4, s5, s6, s7, s8, s9⟩
    go_simp
    with_reducible rfl
   rotate_left
   ·exact zV
   refine pure_ (i := 12) (N := some 10) (v := ?_) (a' := ?_) #[true, true, true, true, true, true, true, false, true, false, false, false, true, false] rfl rfl (any_of HT_.1 (by kernel_rfl)) (fun _ _ _ h => h) (Or.inl ⟨by rfl, ?_⟩) ?_ ?_
   rotate_left
   ·intro w'
    go_simp
    with_reducible rfl
   rotate_left
   ·exact zV
   refine take_ (i := 7) (N := some 48) (v := ?_) (a' := ?_) #[true, true, true, true, true, true, true, true, true, false, false, false, true, false] rfl rfl (take_ofW HT_.1 HW_.1 (by kernel_rfl)) (fun _ _ _ h => h) (Or.inl ⟨by rfl, ?_⟩) hHeld ?_ ?_
   rotate_left
   ·rintro w' ⟨s0, s1, s2, s3, s4, s5, s6, s7, s8, s9⟩
    go_simp
    with_reducible rfl
   rotate_left
   ·exact zV
   refine take_ (i := 9) (N := some 50) (v := ?_) (a' := ?_) #[true, true, true, true, true, true, true, true, true, true, false, false, true, false] rfl rfl (take_ofW HT_.1 HW_.1 (by kernel_rfl)) (fun _ _ _ h => h) (Or.inl ⟨by rfl, ?_⟩) hHeld ?_ ?_
   rotate_left
   ·rintro w' ⟨s0, s1, s2, s3, s4, s5, s6, s7, s8, s9⟩
    go_simp
    with_reducible rfl
   rotate_left
   ·exact zV
   refine pure_ (i := 10) (N := some 51) (v := ?_) (a' := ?_) #[true, true, true, true, true, true, true, true, true, true, true, false, true, false] rfl rfl (any_of HT_.1 (by kernel_rfl)) (fun _ _ _ h => h) (Or.inl ⟨by rfl, ?_⟩) ?_ ?_
   rotate_left
   ·intro w'
    go_simp
    with_reducible rfl
   rotate_left
   ·exact zV
   refine take_ (i := 11) (N := some 52) (v := ?_) (a' := ?_) #[true, true, true, true, true, true, true, true, true, true, true, true, true, false] rfl rfl (take_ofW HT_.1 HW_.1 (by kernel_rfl)) (fun _ _ _ h => h) (Or.inl ⟨by rfl, ?_⟩) hHeld ?_ ?_
   rotate_left
   ·rintro w' ⟨s0, s1, s2, s3, s4, s5, s6, s7, s8, s9⟩
    go_simp
    with_reducible rfl
   rotate_left
   ·exact zV
   refine pure_ (i := 13) (N := some 11) (v := ?_) (a' := ?_) #[true, true, true, true, true, true, true, true, true, true, true, true, true, true] rfl rfl (any_of HT_.1 (by kernel_rfl)) (fun _ _ _ h => h) (Or.inl ⟨by rfl, ?_⟩) ?_ ?_
   rotate_left
   ·intro w'
    go_simp
    with_reducible rfl
   rotate_left
   ·exact zV
   refine done_ (done_of HT_.1 (by kernel_rfl)) ?_
   go_upto_region 11 with (fail)
   go_cut [54] (fun v54 wc => ∃ (kq : Nat) (x54_54 : Int), v54 = .int .i64 x54_54 ∧ Aside0 (spec_Work.j1 kq a2 (-1) (rd l0_0 a1_2) (rd l0_0 a1_3) x54_54 l0_0 a0_1 a0_2 a1_0 a1_1 a1_2 a1_3 a1_4 t328 t336 t332 = some (r1, r2, r3, r4)) ∧ Aside0 (kq ≤ kj4) ∧ Aside0 (Kd.R (Kd.int .i64) 3 wc w.heap.size (fun _ => True) (.slice Ao14 t328.length co14) t328) ∧ Aside0 (wc.heap[gb325]? = some (.cells #[(.slice (some ad338) l0_0.length c0_0), .int .i64 a0_1, .int .i64 a0_2] 29 (0, 0))) ∧ Aside0 (wc.heap[gb326]? = some (.cells #[.int .i64 a1_0, .int .i64 a1_1, .int .i64 a1_2, .int .i64 a1_3, .int .i64 a1_4] 59 (0, 0))) ∧ Aside0 (wc.heap[gb327]? = some (.cells #[(.slice none 0 0), .int .i64 0, .int .i64 0] 29 (0, 0))) ∧ Aside0 (wc.heap[gb333]? = some (.cells #[(.slice Ao14 t328.length co14), .int .i64 t336, .int .i64 t332] 29 (0, 0))) ∧ Aside0 (Below w.heap.size w wc))
   case first =>
    have H := HC55.1
    clear HC55
    have H' := zM H
    clear H
    have hnb67 := NB326_325.1
    have hnc67 := NB325_326.1
    have hnb68 := NB326_327.1
    have hnc68 := NB327_326.1
    have hnb69 := NB326_333.1
    have hnc69 := NB333_326.1
    have hcz70 := zc_5 (w := w66) BK326.1
    go_wp2
    go_meet
    case rel => exact ⟨_, (a1_0), zJJ, H', ⟨by have := HJ4.1; first | omega | exact Nat.le_refl _⟩, ⟨zR HO_334000.1⟩, ⟨zK BK325.1⟩, ⟨zK BK326.1⟩, ⟨zK BK327.1⟩, ⟨zK BK333.1⟩, ⟨zB41⟩⟩
   case rest =>
    clear HC55
    try clear c1
    try clear c2
    try clear p2
    try clear c3
    try clear p3
    try clear q3
    try clear hx3
    try clear c4
    try clear c5
    try clear c6
    try clear p6
    try clear c9
    try clear c10
    try clear c12
    try clear c15
    try clear c16
    try clear c17
    try clear c20
    try clear c21
    try clear c21b0
    try clear c21b1
    try clear c23
    try clear c24
    try clear c25
    try clear c29
    try clear c30
    try clear c31
    try clear p33
    try clear q33
    try clear hx33
    try clear c35
    try clear c36
    try clear c37
    try clear c40
    try clear c41
    try clear c42
    try clear c43
    try clear c45
    try clear c46
    try clear c50
    try clear c51
    try clear c51b0
    try clear c52
    try clear c52b0
    try clear c53
    try clear c53b0
    try clear c54
    try clear c54b0
    try clear c56
    try clear c57
    try clear c58
    try clear c60
    try clear c61
    try clear c63
    try clear p64
    try clear c67
    try clear c68
    try clear c69
    try clear hcz11
    try clear hcz18
    try clear hcz26
    try clear hcz28
    try clear hcz32
    try clear hcz34
    try clear hcz38
    try clear hcz44
    try clear hcz47
    try clear hcz59
    try clear hcz62
    try clear hcz64
    try clear hcz70
    try clear hx338_0
    try clear hx339_0
    try clear p2
    try clear p338
    try clear p339
    try clear q338
    try clear q339
    obtain ⟨kq, x54_54, rfl, HA, HJ54, HO_334000, BK325, BK326, BK327, BK333, HB⟩ := hcut
    cases kq with
    | zero => exact absurd HA.1 (by simp [spec_Work.j1])
    | succ kj54 =>
     have H := HA.1
     clear HA
     simp only [spec_Work.j1] at H
     have HC71 := zM H
     clear H
     go_upto_block 0 with (fail)
     go_cut [9] (fun v9 wc => ∃ (kq : Nat) (x9_70 : Int) (x334000_70 : List Int) (x334001_70 : Int) (x334002_70 : Int) (u334000 : Value), v9 = .int .i64 x9_70 ∧ Aside0 (spec_Work.j2 kq x9_70 x334000_70 x334001_70 x334002_70 = some (r1, r2, r3, r4)) ∧ Aside0 (kq ≤ kj54) ∧ Aside0 (Kd.R (Kd.int .i64) 3 wc w.heap.size (fun _ => True) u334000 x334000_70) ∧ Aside0 (wc.heap[gb325]? = some (.cells #[(.slice (some ad338) l0_0.length c0_0), .int .i64 a0_1, .int .i64 a0_2] 29 (0, 0))) ∧ Aside0 (wc.heap[gb326]? = some (.cells #[.int .i64 a1_0, .int .i64 a1_1, .int .i64 a1_2, .int .i64 a1_3, .int .i64 a1_4] 59 (0, 0))) ∧ Aside0 (wc.heap[gb327]? = some (.cells #[(.slice none 0 0), .int .i64 0, .int .i64 0] 29 (0, 0))) ∧ Aside0 (wc.heap[gb333]? = some (.cells #[u334000, .int .i64 x334001_70, .int .i64 x334002_70] 29 (0, 0))) ∧ Aside0 (Below w.heap.size w wc))
     case first =>
      have H := HC71.1
      clear HC71
      by_cases c72 : x54_54 = 1
      ·rw [if_pos c72] at H
       have c72b0 : (x54_54 == 1) = true := beq_iff_eq.mpr c72
       have c72b1 : (x54_54 != 1) = false := bne_eq_false_iff_eq.mpr c72
       clear c72
       (first | rw [c72b0] | (simp only [i64_w, i32_w]; rw [c72b0]) | skip)
       by_cases c73 : 0 ≤ a1_1
       rotate_left
       ·rw [if_neg c73] at H
        exact absurd H (by simp)
       rw [if_pos c73] at H
       have c73b0 := decide_eq_true c73
       clear c73
       by_cases c74 : a1_1 < (t328.length : Int)
       rotate_left
       ·rw [if_neg c74] at H
        exact absurd H (by simp)
       rw [if_pos c74] at H
       have c74b0 := decide_eq_true c74
       clear c74
       obtain ⟨y340, hy340⟩ : ∃ y_ : List Int, y_ = (t328.set (a1_1 : Int).toNat a1_4) := ⟨_, rfl⟩
       replace H : (spec_Work.j2 kj54 (-1) y340 t336 t332) = some (r1, r2, r3, r4) := by first | (rw [hy340]; with_reducible exact H) | (have H2_ := (Option.bind_some _ _).symm.trans H; rw [hy340]; with_reducible exact H2_) | (have H2_ := (Option.bind_some _ _).symm.trans H; with_reducible exact H2_) | with_reducible exact H | (rw [hy340]; exact H) | exact H
       have Ny340 := zM hy340
       clear hy340
       have H' := zM H
       clear H
       have hnb76 := NB333_325.1
       have hnc76 := NB325_333.1
       have hnb77 := NB333_326.1
       have hnc77 := NB326_333.1
       have hnb78 := NB333_327.1
       have hnc78 := NB327_333.1
       have hcz79 := zc_3 (w := wc) BK333.1
       have hnb80 := NB326_325.1
       have hnc80 := NB325_326.1
       have hnb81 := NB326_327.1
       have hnc81 := NB327_326.1
       have hcz82 := zc_5 (w := wc) BK326.1
       have p75 : 0 ≤ (a1_1 : Int) := zA
       have q75 : (a1_1 : Int) < ((t328.length : Int) : Int) := zA
       obtain ⟨go75, co75, eo75, gb75, gl75, cl75, HG75⟩ := Kd.R_form HO_334000.1 (by omega)
       (first | cases eo75 | (injection eo75 with ea_ en_ ec_; (first | subst ea_ | (injection ea_ with ea_; subst ea_)); subst ec_; clear en_))
       have GB75 := zM gb75
       have GG75 := zM HG75
       clear gb75 gl75 HG75
       obtain ⟨hx75_0, hf75_0⟩ := Kd.R_celln 0 HO_334000.1 (a1_1 : Int) p75 q75
       replace p75 := eq_true p75
       replace q75 := eq_true q75
       have HP83 := Kd.R_putg HO_334000.1 (a1_1 : Int) a1_4
       go_wp2_with (first | ((with_reducible refine gate_store (t := 3) (p := 63) rfl ?_); refine store_event (t := 3) (p := 63) (v := ?vo_w84) (w1 := (wc.setCell ⟨go75, (a1_1 : Int).toNat, none⟩ (.int .i64 a1_4))) ?hg ?ho ?hn ?hr ?_; (case ho => rfl); (case hg => rfl); (case hn => rfl); (case hr => exact zHH); intro w84 hw; have hg : wc.grownBy w84 (some go75) := (by rw [hw]; exact HP83.2); have hp_ : Kd.R (Kd.int .i64) 3 w84 w.heap.size (fun _ => True) (.slice (some ⟨go75, 0, none⟩) t328.length co14) y340 := (by rw [hw, Ny340.1]; exact HP83.1); clear HP83; replace BK325 := zM (zg BK325.1 hg (Kd.R_ne HO_334000.1 BK325.1 (by decide))); replace BK326 := zM (zg BK326.1 hg (Kd.R_ne HO_334000.1 BK326.1 (by decide))); replace BK327 := zM (zg BK327.1 hg (Kd.R_ne HO_334000.1 BK327.1 (by decide))); replace BK333 := zM (zg BK333.1 hg (Kd.R_ne HO_334000.1 BK333.1 (by decide))); replace HO_334000 := zM hp_; replace HB := zM ((by rw [hw]; exact below_set (HB.1) GB75.1 : Below w.heap.size w w84)); clear hg hw hp_))
       go_meet
       case rel => exact ⟨_, ((-1)), (y340), (t336), (t332), (.slice (some ⟨go75, 0, none⟩) t328.length co14), zJJ, H', ⟨by have := HJ4.1; have := HJ54.1; first | omega | exact Nat.le_refl _⟩, ⟨zR HO_334000.1⟩, ⟨zK BK325.1⟩, ⟨zK BK326.1⟩, ⟨zK BK327.1⟩, ⟨zK BK333.1⟩, ⟨zB41⟩⟩
      rw [if_neg c72] at H
      have c72b0 : (x54_54 == 1) = false := beq_eq_false_iff_ne.mpr c72
      have c72b1 : (x54_54 != 1) = true := bne_iff_ne.mpr c72
      (first | rw [c72b0] | (simp only [i64_w, i32_w]; rw [c72b0]) | skip)
      by_cases c85 : x54_54 = 2
      ·rw [if_pos c85] at H
       have c85b0 : (x54_54 == 2) = true := beq_iff_eq.mpr c85
       have c85b1 : (x54_54 != 2) = false := bne_eq_false_iff_eq.mpr c85
       clear c85
       replace H := zO H
       obtain ⟨t341, A86, H⟩ := H
       by_cases c87 : 0 ≤ a1_1
       rotate_left
       ·rw [if_neg c87] at H
        exact absurd H (by simp)
       rw [if_pos c87] at H
       have c87b0 := decide_eq_true c87
       clear c87
       by_cases c88 : a1_1 < (t328.length : Int)
       rotate_left
       ·rw [if_neg c88] at H
        exact absurd H (by simp)
       rw [if_pos c88] at H
       have c88b0 := decide_eq_true c88
       clear c88
       obtain ⟨y342, hy342⟩ : ∃ y_ : List Int, y_ = (t328.set (a1_1 : Int).toNat t341) := ⟨_, rfl⟩
       replace H : (spec_Work.j2 kj54 (-1) y342 t336 t332) = some (r1, r2, r3, r4) := by first | (rw [hy342]; with_reducible exact H) | (have H2_ := (Option.bind_some _ _).symm.trans H; rw [hy342]; with_reducible exact H2_) | (have H2_ := (Option.bind_some _ _).symm.trans H; with_reducible exact H2_) | with_reducible exact H | (rw [hy342]; exact H) | exact H
       have Ny342 := zM hy342
       clear hy342
       have H' := zM H
       clear H
       try go_wp2
       replace HO_334000 := zM (Kd.R_drew HO_334000.1)
       replace BK325 := zM (blk_drew BK325.1)
       replace BK326 := zM (blk_drew BK326.1)
       replace BK327 := zM (blk_drew BK327.1)
       replace BK333 := zM (blk_drew BK333.1)
       replace HB := zM (below_drew1 HB.1)
       refine start_ (n := 10) (S := fun w' => w'.cell? ⟨gb333, 0, none⟩ = some (.slice Ao14 t328.length co14) ∧ w'.cell? ⟨gb333, 1, none⟩ = some (.int .i64 t336) ∧ w'.cell? ⟨gb333, 2, none⟩ = some (.int .i64 t332) ∧ w'.cell? ⟨gb326, 0, none⟩ = some (.int .i64 a1_0) ∧ w'.cell? ⟨gb326, 1, none⟩ = some (.int .i64 a1_1) ∧ w'.cell? ⟨gb326, 2, none⟩ = some (.int .i64 a1_2) ∧ w'.cell? ⟨gb326, 3, none⟩ = some (.int .i64 a1_3) ∧ w'.cell? ⟨gb326, 4, none⟩ = some (.int .i64 a1_4)) (ds := [9]) zq12_0 (by kernel_rfl) rfl rfl ⟨(blk_cell BK333.1 0).trans rfl, (blk_cell BK333.1 1).trans rfl, (blk_cell BK333.1 2).trans rfl, (blk_cell BK326.1 0).trans rfl, (blk_cell BK326.1 1).trans rfl, (blk_cell BK326.1 2).trans rfl, (blk_cell BK326.1 3).trans rfl, (blk_cell BK326.1 4).trans rfl⟩ (fun hHeld => ?_); refine with_tabW spec_Work.tab15 spec_Work.bits15 (fun HT_ HW_ => ?_)
       generalize wc.drew = w90 at HO_334000 BK325 BK326 BK327 BK333 HB hHeld ⊢
       refine pure_ (i := 0) (N := some 66) (v := ?_) (a' := ?_) zq12_1 rfl rfl (any_of HT_.1 (by kernel_rfl)) (fun _ _ _ h => h) (Or.inl ⟨by rfl, ?_⟩) ?_ ?_
       rotate_left
       ·intro w'
        go_simp
        with_reducible rfl
       rotate_left
       ·exact zV
       refine pure_ (i := 2) (N := some 68) (v := ?_) (a' := ?_) zq12_2 rfl rfl (any_of HT_.1 (by kernel_rfl)) (fun _ _ _ h => h) (Or.inl ⟨by rfl, ?_⟩) ?_ ?_
       rotate_left
       ·intro w'
        go_simp
        with_reducible rfl
       rotate_left
       ·exact zV
       refine pure_ (i := 4) (N := some 70) (v := ?_) (a' := ?_) zq12_3 rfl rfl (any_of HT_.1 (by kernel_rfl)) (fun _ _ _ h => h) (Or.inl ⟨by rfl, ?_⟩) ?_ ?_
       rotate_left
       ·intro w'
        go_simp
        with_reducible rfl
       rotate_left
       ·exact zV
       refine pure_ (i := 5) (N := some 71) (v := ?_) (a' := ?_) zq12_4 rfl rfl (any_of HT_.1 (by kernel_rfl)) (fun _ _ _ h => h) (Or.inl ⟨by rfl, ?_⟩) ?_ ?_
       rotate_left
       ·intro w'
        go_simp
        with_reducible rfl
       rotate_left
       ·exact zV
       refine pure_ (i := 6) (N := some 72) (v := ?_) (a' := ?_) zq12_5 rfl rfl (any_of HT_.1 (by kernel_rfl)) (fun _ _ _ h => h) (Or.inl ⟨by rfl, ?_⟩) ?_ ?_
       rotate_left
       ·intro w'
        go_simp
        with_reducible rfl
       rotate_left
       ·exact zV
       refine take_ (i := 1) (N := some 67) (v := ?_) (a' := ?_) zq12_6 rfl rfl (take_ofW HT_.1 HW_.1 (by kernel_rfl)) (fun _ _ _ h => h) (Or.inl ⟨by rfl, ?_⟩) hHeld ?_ ?_
       rotate_left
       ·rintro w' ⟨s0, s1, s2, s3, s4, s5, s6, s7⟩
        go_simp
        with_reducible rfl
       rotate_left
       ·exact zV
       refine take_ (i := 3) (N := some 69) (v := ?_) (a' := ?_) zq12_7 rfl rfl (take_ofW HT_.1 HW_.1 (by kernel_rfl)) (fun _ _ _ h => h) (Or.inl ⟨by rfl, ?_⟩) hHeld ?_ ?_
       rotate_left
       ·rintro w' ⟨s0, s1, s2, s3, s4, s5, s6, s7⟩
        go_simp
        with_reducible rfl
       rotate_left
       ·exact zV
       refine one_ (i := 7) (N := some 73) zq12_8 rfl rfl (one_of HT_.1 (by kernel_rfl)) (by decide) (fun K hK => ?_)
       refine goes_ Try.func126 (by kernel_rfl) rfl #[.int .i64 (wrap64 ((rd l0_0 a1_2) + (rd l0_0 a1_3)))] (by rfl) rfl rfl zT ?_
       with_reducible refine (spec_l9Word.calls (wrap64 ((rd l0_0 a1_2) + (rd l0_0 a1_3))) t341 _ A86.1).mono ?_
       rintro e w' ⟨rfl, ⟨nd, rfl⟩⟩
       refine ⟨_, rfl, ?_⟩
       (try (rw [drewN_self w90]; generalize hq_ : World.drewN w90 _ = w90; have n0_ : Aside0 (Kd.R (Kd.int .i64) 3 w90 w.heap.size (fun _ => True) (.slice Ao14 t328.length co14) t328) := ⟨by rw [← hq_]; exact (zR HO_334000.1)⟩; have n1_ : Aside0 (w90.heap[gb325]? = some (.cells #[.slice (some ad338) l0_0.length c0_0, .int .i64 a0_1, .int .i64 a0_2] 29 (0, 0))) := ⟨by rw [← hq_]; exact (zK BK325.1)⟩; have n2_ : Aside0 (w90.heap[gb326]? = some (.cells #[.int .i64 a1_0, .int .i64 a1_1, .int .i64 a1_2, .int .i64 a1_3, .int .i64 a1_4] 59 (0, 0))) := ⟨by rw [← hq_]; exact (zK BK326.1)⟩; have n3_ : Aside0 (w90.heap[gb327]? = some (.cells #[.slice none 0 0, .int .i64 0, .int .i64 0] 29 (0, 0))) := ⟨by rw [← hq_]; exact (zK BK327.1)⟩; have n4_ : Aside0 (w90.heap[gb333]? = some (.cells #[.slice Ao14 t328.length co14, .int .i64 t336, .int .i64 t332] 29 (0, 0))) := ⟨by rw [← hq_]; exact (zK BK333.1)⟩; have n5_ : Aside0 (Below w.heap.size w w90) := ⟨by rw [← hq_]; exact zB41⟩; clear HO_334000 BK325 BK326 BK327 BK333 HB hq_; have HO_334000 := n0_; have BK325 := n1_; have BK326 := n2_; have BK327 := n3_; have BK333 := n4_; have HB := n5_; clear n0_ n1_ n2_ n3_ n4_ n5_))
       have p89 : 0 ≤ (a1_1 : Int) := zA
       have q89 : (a1_1 : Int) < ((t328.length : Int) : Int) := zA
       obtain ⟨go89, co89, eo89, gb89, gl89, cl89, HG89⟩ := Kd.R_form HO_334000.1 (by omega)
       (first | cases eo89 | (injection eo89 with ea_ en_ ec_; (first | subst ea_ | (injection ea_ with ea_; subst ea_)); subst ec_; clear en_))
       have GB89 := zM gb89
       have GG89 := zM HG89
       clear gb89 gl89 HG89
       obtain ⟨hx89_0, hf89_0⟩ := Kd.R_celln 0 HO_334000.1 (a1_1 : Int) p89 q89
       replace p89 := eq_true p89
       replace q89 := eq_true q89
       have HP91 := Kd.R_putn HO_334000.1 (a1_1 : Int) t341
       rw [← Ny342.1] at HP91
       have HQ91 := zM HP91
       clear HP91
       refine hK.out _ _ ⟨(blk_cell BK333.1 0).trans rfl, (blk_cell BK333.1 1).trans rfl, (blk_cell BK333.1 2).trans rfl, (blk_cell BK326.1 0).trans rfl, (blk_cell BK326.1 1).trans rfl, (blk_cell BK326.1 2).trans rfl, (blk_cell BK326.1 3).trans rfl, (blk_cell BK326.1 4).trans rfl⟩ (fun hHeld => ?_)
       clear hK K
       refine norm_ (a' := ?_) ?_ ?_
       rotate_left
       ·show Act.put _ (some 73) _ = _
        simp only [Act.put, List.setIfInBounds_toArray, List.set_cons_zero, List.set_cons_succ, i64_w, i32_w]
        rfl
       refine pure_ (i := 8) (N := some 74) (v := ?_) (a' := ?_) zq12_9 rfl rfl (any_of HT_.1 (by kernel_rfl)) (fun _ _ _ h => h) (Or.inl ⟨by rfl, ?_⟩) ?_ ?_
       rotate_left
       ·intro w'
        go_simp
        with_reducible rfl
       rotate_left
       ·exact zV
       refine last_ (i := 9) (N := none) zq12_10 rfl rfl (one_of HT_.1 (by kernel_rfl)) (by decide) (fun K hK => ?_)
       refine skip_ (w1 := ?_) (by rfl) rfl ?_ ?_
       rotate_left
       ·go_simp
        rfl
       refine hK.out _ _ ?_
       clear hK K
       refine done_ (done_of HT_.1 (by kernel_rfl)) ?_
       try go_wp2
       go_meet
       case rel => exact ⟨_, ((-1)), (y342), (t336), (t332), (.slice (some ⟨go89, 0, none⟩) t328.length co14), zJJ, H', ⟨by have := HJ4.1; have := HJ54.1; first | omega | exact Nat.le_refl _⟩, ⟨zR HQ91.out⟩, ⟨by refine zP ?_; refine blk_far ?_ (by have h_ := Kd.R_ne HO_334000.1 BK325.1 (by decide); intro e_; exact h_ (by rw [e_]; rfl)) _; refine zP ?_; exact BK325.1⟩, ⟨by refine zP ?_; refine blk_far ?_ (by have h_ := Kd.R_ne HO_334000.1 BK326.1 (by decide); intro e_; exact h_ (by rw [e_]; rfl)) _; refine zP ?_; exact BK326.1⟩, ⟨by refine zP ?_; refine blk_far ?_ (by have h_ := Kd.R_ne HO_334000.1 BK327.1 (by decide); intro e_; exact h_ (by rw [e_]; rfl)) _; refine zP ?_; exact BK327.1⟩, ⟨by refine zP ?_; refine blk_far ?_ (by have h_ := Kd.R_ne HO_334000.1 BK333.1 (by decide); intro e_; exact h_ (by rw [e_]; rfl)) _; refine zP ?_; exact BK333.1⟩, ⟨zB42⟩⟩
      rw [if_neg c85] at H
      have c85b0 : (x54_54 == 2) = false := beq_eq_false_iff_ne.mpr c85
      have c85b1 : (x54_54 != 2) = true := bne_iff_ne.mpr c85
      by_cases c92 : x54_54 = 10
      ·rw [if_pos c92] at H
       have c92b0 : (x54_54 == 10) = true := beq_iff_eq.mpr c92
       have c92b1 : (x54_54 != 10) = false := bne_eq_false_iff_eq.mpr c92
       clear c92
       replace H := zO H
       obtain ⟨t343, A93, H⟩ := H
       by_cases c94 : 0 ≤ a1_1
       rotate_left
       ·rw [if_neg c94] at H
        exact absurd H (by simp)
       rw [if_pos c94] at H
       have c94b0 := decide_eq_true c94
       clear c94
       by_cases c95 : a1_1 < (t328.length : Int)
       rotate_left
       ·rw [if_neg c95] at H
        exact absurd H (by simp)
       rw [if_pos c95] at H
       have c95b0 := decide_eq_true c95
       clear c95
       obtain ⟨y344, hy344⟩ : ∃ y_ : List Int, y_ = (t328.set (a1_1 : Int).toNat t343) := ⟨_, rfl⟩
       replace H : (spec_Work.j2 kj54 (-1) y344 t336 t332) = some (r1, r2, r3, r4) := by first | (rw [hy344]; with_reducible exact H) | (have H2_ := (Option.bind_some _ _).symm.trans H; rw [hy344]; with_reducible exact H2_) | (have H2_ := (Option.bind_some _ _).symm.trans H; with_reducible exact H2_) | with_reducible exact H | (rw [hy344]; exact H) | exact H
       have Ny344 := zM hy344
       clear hy344
       have H' := zM H
       clear H
       try go_wp2
       replace HO_334000 := zM (Kd.R_drew HO_334000.1)
       replace BK325 := zM (blk_drew BK325.1)
       replace BK326 := zM (blk_drew BK326.1)
       replace BK327 := zM (blk_drew BK327.1)
       replace BK333 := zM (blk_drew BK333.1)
       replace HB := zM (below_drew1 HB.1)
       refine start_ (n := 10) (S := fun w' => w'.cell? ⟨gb333, 0, none⟩ = some (.slice Ao14 t328.length co14) ∧ w'.cell? ⟨gb333, 1, none⟩ = some (.int .i64 t336) ∧ w'.cell? ⟨gb333, 2, none⟩ = some (.int .i64 t332) ∧ w'.cell? ⟨gb326, 0, none⟩ = some (.int .i64 a1_0) ∧ w'.cell? ⟨gb326, 1, none⟩ = some (.int .i64 a1_1) ∧ w'.cell? ⟨gb326, 2, none⟩ = some (.int .i64 a1_2) ∧ w'.cell? ⟨gb326, 3, none⟩ = some (.int .i64 a1_3) ∧ w'.cell? ⟨gb326, 4, none⟩ = some (.int .i64 a1_4)) (ds := [9]) zq12_0 (by kernel_rfl) rfl rfl ⟨(blk_cell BK333.1 0).trans rfl, (blk_cell BK333.1 1).trans rfl, (blk_cell BK333.1 2).trans rfl, (blk_cell BK326.1 0).trans rfl, (blk_cell BK326.1 1).trans rfl, (blk_cell BK326.1 2).trans rfl, (blk_cell BK326.1 3).trans rfl, (blk_cell BK326.1 4).trans rfl⟩ (fun hHeld => ?_); refine with_tabW spec_Work.tab17 spec_Work.bits17 (fun HT_ HW_ => ?_)
       generalize wc.drew = w97 at HO_334000 BK325 BK326 BK327 BK333 HB hHeld ⊢
       refine pure_ (i := 0) (N := some 77) (v := ?_) (a' := ?_) zq12_1 rfl rfl (any_of HT_.1 (by kernel_rfl)) (fun _ _ _ h => h) (Or.inl ⟨by rfl, ?_⟩) ?_ ?_
       rotate_left
       ·intro w'
        go_simp
        with_reducible rfl
       rotate_left
       ·exact zV
       refine pure_ (i := 2) (N := some 79) (v := ?_) (a' := ?_) zq12_2 rfl rfl (any_of HT_.1 (by kernel_rfl)) (fun _ _ _ h => h) (Or.inl ⟨by rfl, ?_⟩) ?_ ?_
       rotate_left
       ·intro w'
        go_simp
        with_reducible rfl
       rotate_left
       ·exact zV
       refine pure_ (i := 4) (N := some 81) (v := ?_) (a' := ?_) zq12_3 rfl rfl (any_of HT_.1 (by kernel_rfl)) (fun _ _ _ h => h) (Or.inl ⟨by rfl, ?_⟩) ?_ ?_
       rotate_left
       ·intro w'
        go_simp
        with_reducible rfl
       rotate_left
       ·exact zV
       refine pure_ (i := 5) (N := some 82) (v := ?_) (a' := ?_) zq12_4 rfl rfl (any_of HT_.1 (by kernel_rfl)) (fun _ _ _ h => h) (Or.inl ⟨by rfl, ?_⟩) ?_ ?_
       rotate_left
       ·intro w'
        go_simp
        with_reducible rfl
       rotate_left
       ·exact zV
       refine pure_ (i := 6) (N := some 83) (v := ?_) (a' := ?_) zq12_5 rfl rfl (any_of HT_.1 (by kernel_rfl)) (fun _ _ _ h => h) (Or.inl ⟨by rfl, ?_⟩) ?_ ?_
       rotate_left
       ·intro w'
        go_simp
        with_reducible rfl
       rotate_left
       ·exact zV
       refine take_ (i := 1) (N := some 78) (v := ?_) (a' := ?_) zq12_6 rfl rfl (take_ofW HT_.1 HW_.1 (by kernel_rfl)) (fun _ _ _ h => h) (Or.inl ⟨by rfl, ?_⟩) hHeld ?_ ?_
       rotate_left
       ·rintro w' ⟨s0, s1, s2, s3, s4, s5, s6, s7⟩
        go_simp
        with_reducible rfl
       rotate_left
       ·exact zV
       refine take_ (i := 3) (N := some 80) (v := ?_) (a' := ?_) zq12_7 rfl rfl (take_ofW HT_.1 HW_.1 (by kernel_rfl)) (fun _ _ _ h => h) (Or.inl ⟨by rfl, ?_⟩) hHeld ?_ ?_
       rotate_left
       ·rintro w' ⟨s0, s1, s2, s3, s4, s5, s6, s7⟩
        go_simp
        with_reducible rfl
       rotate_left
       ·exact zV
       refine one_ (i := 7) (N := some 84) zq12_8 rfl rfl (one_of HT_.1 (by kernel_rfl)) (by decide) (fun K hK => ?_)
       refine goes_ Try.func126 (by kernel_rfl) rfl #[.int .i64 (wrap64 ((rd l0_0 a1_2) - (rd l0_0 a1_3)))] (by rfl) rfl rfl zT ?_
       with_reducible refine (spec_l9Word.calls (wrap64 ((rd l0_0 a1_2) - (rd l0_0 a1_3))) t343 _ A93.1).mono ?_
       rintro e w' ⟨rfl, ⟨nd, rfl⟩⟩
       refine ⟨_, rfl, ?_⟩
       (try (rw [drewN_self w97]; generalize hq_ : World.drewN w97 _ = w97; have n0_ : Aside0 (Kd.R (Kd.int .i64) 3 w97 w.heap.size (fun _ => True) (.slice Ao14 t328.length co14) t328) := ⟨by rw [← hq_]; exact (zR HO_334000.1)⟩; have n1_ : Aside0 (w97.heap[gb325]? = some (.cells #[.slice (some ad338) l0_0.length c0_0, .int .i64 a0_1, .int .i64 a0_2] 29 (0, 0))) := ⟨by rw [← hq_]; exact (zK BK325.1)⟩; have n2_ : Aside0 (w97.heap[gb326]? = some (.cells #[.int .i64 a1_0, .int .i64 a1_1, .int .i64 a1_2, .int .i64 a1_3, .int .i64 a1_4] 59 (0, 0))) := ⟨by rw [← hq_]; exact (zK BK326.1)⟩; have n3_ : Aside0 (w97.heap[gb327]? = some (.cells #[.slice none 0 0, .int .i64 0, .int .i64 0] 29 (0, 0))) := ⟨by rw [← hq_]; exact (zK BK327.1)⟩; have n4_ : Aside0 (w97.heap[gb333]? = some (.cells #[.slice Ao14 t328.length co14, .int .i64 t336, .int .i64 t332] 29 (0, 0))) := ⟨by rw [← hq_]; exact (zK BK333.1)⟩; have n5_ : Aside0 (Below w.heap.size w w97) := ⟨by rw [← hq_]; exact zB41⟩; clear HO_334000 BK325 BK326 BK327 BK333 HB hq_; have HO_334000 := n0_; have BK325 := n1_; have BK326 := n2_; have BK327 := n3_; have BK333 := n4_; have HB := n5_; clear n0_ n1_ n2_ n3_ n4_ n5_))
       have p96 : 0 ≤ (a1_1 : Int) := zA
       have q96 : (a1_1 : Int) < ((t328.length : Int) : Int) := zA
       obtain ⟨go96, co96, eo96, gb96, gl96, cl96, HG96⟩ := Kd.R_form HO_334000.1 (by omega)
       (first | cases eo96 | (injection eo96 with ea_ en_ ec_; (first | subst ea_ | (injection ea_ with ea_; subst ea_)); subst ec_; clear en_))
       have GB96 := zM gb96
       have GG96 := zM HG96
       clear gb96 gl96 HG96
       obtain ⟨hx96_0, hf96_0⟩ := Kd.R_celln 0 HO_334000.1 (a1_1 : Int) p96 q96
       replace p96 := eq_true p96
       replace q96 := eq_true q96
       have HP98 := Kd.R_putn HO_334000.1 (a1_1 : Int) t343
       rw [← Ny344.1] at HP98
       have HQ98 := zM HP98
       clear HP98
       refine hK.out _ _ ⟨(blk_cell BK333.1 0).trans rfl, (blk_cell BK333.1 1).trans rfl, (blk_cell BK333.1 2).trans rfl, (blk_cell BK326.1 0).trans rfl, (blk_cell BK326.1 1).trans rfl, (blk_cell BK326.1 2).trans rfl, (blk_cell BK326.1 3).trans rfl, (blk_cell BK326.1 4).trans rfl⟩ (fun hHeld => ?_)
       clear hK K
       refine norm_ (a' := ?_) ?_ ?_
       rotate_left
       ·show Act.put _ (some 84) _ = _
        simp only [Act.put, List.setIfInBounds_toArray, List.set_cons_zero, List.set_cons_succ, i64_w, i32_w]
        rfl
       refine pure_ (i := 8) (N := some 85) (v := ?_) (a' := ?_) zq12_9 rfl rfl (any_of HT_.1 (by kernel_rfl)) (fun _ _ _ h => h) (Or.inl ⟨by rfl, ?_⟩) ?_ ?_
       rotate_left
       ·intro w'
        go_simp
        with_reducible rfl
       rotate_left
       ·exact zV
       refine last_ (i := 9) (N := none) zq12_10 rfl rfl (one_of HT_.1 (by kernel_rfl)) (by decide) (fun K hK => ?_)
       refine skip_ (w1 := ?_) (by rfl) rfl ?_ ?_
       rotate_left
       ·go_simp
        rfl
       refine hK.out _ _ ?_
       clear hK K
       refine done_ (done_of HT_.1 (by kernel_rfl)) ?_
       try go_wp2
       go_meet
       case rel => exact ⟨_, ((-1)), (y344), (t336), (t332), (.slice (some ⟨go96, 0, none⟩) t328.length co14), zJJ, H', ⟨by have := HJ4.1; have := HJ54.1; first | omega | exact Nat.le_refl _⟩, ⟨zR HQ98.out⟩, ⟨by refine zP ?_; refine blk_far ?_ (by have h_ := Kd.R_ne HO_334000.1 BK325.1 (by decide); intro e_; exact h_ (by rw [e_]; rfl)) _; refine zP ?_; exact BK325.1⟩, ⟨by refine zP ?_; refine blk_far ?_ (by have h_ := Kd.R_ne HO_334000.1 BK326.1 (by decide); intro e_; exact h_ (by rw [e_]; rfl)) _; refine zP ?_; exact BK326.1⟩, ⟨by refine zP ?_; refine blk_far ?_ (by have h_ := Kd.R_ne HO_334000.1 BK327.1 (by decide); intro e_; exact h_ (by rw [e_]; rfl)) _; refine zP ?_; exact BK327.1⟩, ⟨by refine zP ?_; refine blk_far ?_ (by have h_ := Kd.R_ne HO_334000.1 BK333.1 (by decide); intro e_; exact h_ (by rw [e_]; rfl)) _; refine zP ?_; exact BK333.1⟩, ⟨zB43⟩⟩
      rw [if_neg c92] at H
      have c92b0 : (x54_54 == 10) = false := beq_eq_false_iff_ne.mpr c92
      have c92b1 : (x54_54 != 10) = true := bne_iff_ne.mpr c92
      by_cases c99 : x54_54 = 3
      ·rw [if_pos c99] at H
       have c99b0 : (x54_54 == 3) = true := beq_iff_eq.mpr c99
       have c99b1 : (x54_54 != 3) = false := bne_eq_false_iff_eq.mpr c99
       clear c99
       replace H := zO H
       obtain ⟨t345, A100, H⟩ := H
       by_cases c101 : 0 ≤ a1_1
       rotate_left
       ·rw [if_neg c101] at H
        exact absurd H (by simp)
       rw [if_pos c101] at H
       have c101b0 := decide_eq_true c101
       clear c101
       by_cases c102 : a1_1 < (t328.length : Int)
       rotate_left
       ·rw [if_neg c102] at H
        exact absurd H (by simp)
       rw [if_pos c102] at H
       have c102b0 := decide_eq_true c102
       clear c102
       obtain ⟨y346, hy346⟩ : ∃ y_ : List Int, y_ = (t328.set (a1_1 : Int).toNat t345) := ⟨_, rfl⟩
       replace H : (spec_Work.j2 kj54 (-1) y346 t336 t332) = some (r1, r2, r3, r4) := by first | (rw [hy346]; with_reducible exact H) | (have H2_ := (Option.bind_some _ _).symm.trans H; rw [hy346]; with_reducible exact H2_) | (have H2_ := (Option.bind_some _ _).symm.trans H; with_reducible exact H2_) | with_reducible exact H | (rw [hy346]; exact H) | exact H
       have Ny346 := zM hy346
       clear hy346
       have H' := zM H
       clear H
       try go_wp2
       replace HO_334000 := zM (Kd.R_drew HO_334000.1)
       replace BK325 := zM (blk_drew BK325.1)
       replace BK326 := zM (blk_drew BK326.1)
       replace BK327 := zM (blk_drew BK327.1)
       replace BK333 := zM (blk_drew BK333.1)
       replace HB := zM (below_drew1 HB.1)
       refine start_ (n := 11) (S := fun w' => w'.cell? ⟨gb333, 0, none⟩ = some (.slice Ao14 t328.length co14) ∧ w'.cell? ⟨gb333, 1, none⟩ = some (.int .i64 t336) ∧ w'.cell? ⟨gb333, 2, none⟩ = some (.int .i64 t332) ∧ w'.cell? ⟨gb326, 0, none⟩ = some (.int .i64 a1_0) ∧ w'.cell? ⟨gb326, 1, none⟩ = some (.int .i64 a1_1) ∧ w'.cell? ⟨gb326, 2, none⟩ = some (.int .i64 a1_2) ∧ w'.cell? ⟨gb326, 3, none⟩ = some (.int .i64 a1_3) ∧ w'.cell? ⟨gb326, 4, none⟩ = some (.int .i64 a1_4)) (ds := [10]) #[false, false, false, false, false, false, false, false, false, false, false] (by kernel_rfl) rfl rfl ⟨(blk_cell BK333.1 0).trans rfl, (blk_cell BK333.1 1).trans rfl, (blk_cell BK333.1 2).trans rfl, (blk_cell BK326.1 0).trans rfl, (blk_cell BK326.1 1).trans rfl, (blk_cell BK326.1 2).trans rfl, (blk_cell BK326.1 3).trans rfl, (blk_cell BK326.1 4).trans rfl⟩ (fun hHeld => ?_); refine with_tabW spec_Work.tab19 spec_Work.bits19 (fun HT_ HW_ => ?_)
       generalize wc.drew = w104 at HO_334000 BK325 BK326 BK327 BK333 HB hHeld ⊢
       refine pure_ (i := 0) (N := some 88) (v := ?_) (a' := ?_) #[true, false, false, false, false, false, false, false, false, false, false] rfl rfl (any_of HT_.1 (by kernel_rfl)) (fun _ _ _ h => h) (Or.inl ⟨by rfl, ?_⟩) ?_ ?_
       rotate_left
       ·intro w'
        go_simp
        with_reducible rfl
       rotate_left
       ·exact zV
       refine pure_ (i := 2) (N := some 90) (v := ?_) (a' := ?_) #[true, false, true, false, false, false, false, false, false, false, false] rfl rfl (any_of HT_.1 (by kernel_rfl)) (fun _ _ _ h => h) (Or.inl ⟨by rfl, ?_⟩) ?_ ?_
       rotate_left
       ·intro w'
        go_simp
        with_reducible rfl
       rotate_left
       ·exact zV
       refine pure_ (i := 4) (N := some 92) (v := ?_) (a' := ?_) #[true, false, true, false, true, false, false, false, false, false, false] rfl rfl (any_of HT_.1 (by kernel_rfl)) (fun _ _ _ h => h) (Or.inl ⟨by rfl, ?_⟩) ?_ ?_
       rotate_left
       ·intro w'
        go_simp
        with_reducible rfl
       rotate_left
       ·exact zV
       refine pure_ (i := 5) (N := some 93) (v := ?_) (a' := ?_) #[true, false, true, false, true, true, false, false, false, false, false] rfl rfl (any_of HT_.1 (by kernel_rfl)) (fun _ _ _ h => h) (Or.inl ⟨by rfl, ?_⟩) ?_ ?_
       rotate_left
       ·intro w'
        go_simp
        with_reducible rfl
       rotate_left
       ·exact zV
       refine take_ (i := 1) (N := some 89) (v := ?_) (a' := ?_) #[true, true, true, false, true, true, false, false, false, false, false] rfl rfl (take_ofW HT_.1 HW_.1 (by kernel_rfl)) (fun _ _ _ h => h) (Or.inl ⟨by rfl, ?_⟩) hHeld ?_ ?_
       rotate_left
       ·rintro w' ⟨s0, s1, s2, s3, s4, s5, s6, s7⟩
        go_simp
        with_reducible rfl
       rotate_left
       ·exact zV
       refine take_ (i := 3) (N := some 91) (v := ?_) (a' := ?_) #[true, true, true, true, true, true, false, false, false, false, false] rfl rfl (take_ofW HT_.1 HW_.1 (by kernel_rfl)) (fun _ _ _ h => h) (Or.inl ⟨by rfl, ?_⟩) hHeld ?_ ?_
       rotate_left
       ·rintro w' ⟨s0, s1, s2, s3, s4, s5, s6, s7⟩
        go_simp
        with_reducible rfl
       rotate_left
       ·exact zV
       refine take_ (i := 6) (N := some 94) (v := ?_) (a' := ?_) #[true, true, true, true, true, true, true, false, false, false, false] rfl rfl (take_ofW HT_.1 HW_.1 (by kernel_rfl)) (fun _ _ _ h => h) (Or.inl ⟨by rfl, ?_⟩) hHeld ?_ ?_
       rotate_left
       ·rintro w' ⟨s0, s1, s2, s3, s4, s5, s6, s7⟩
        go_simp
        with_reducible rfl
       rotate_left
       ·exact zV
       refine pure_ (i := 7) (N := some 95) (v := ?_) (a' := ?_) #[true, true, true, true, true, true, true, true, false, false, false] rfl rfl (any_of HT_.1 (by kernel_rfl)) (fun _ _ _ h => h) (Or.inl ⟨by rfl, ?_⟩) ?_ ?_
       rotate_left
       ·intro w'
        go_simp
        with_reducible rfl
       rotate_left
       ·exact zV
       refine one_ (i := 8) (N := some 96) #[true, true, true, true, true, true, true, true, true, false, false] rfl rfl (one_of HT_.1 (by kernel_rfl)) (by decide) (fun K hK => ?_)
       refine goes_ Try.func126 (by kernel_rfl) rfl #[.int .i64 (wrap64 ((rd l0_0 a1_2) + a1_4))] (by rfl) rfl rfl zT ?_
       with_reducible refine (spec_l9Word.calls (wrap64 ((rd l0_0 a1_2) + a1_4)) t345 _ A100.1).mono ?_
       rintro e w' ⟨rfl, ⟨nd, rfl⟩⟩
       refine ⟨_, rfl, ?_⟩
       (try (rw [drewN_self w104]; generalize hq_ : World.drewN w104 _ = w104; have n0_ : Aside0 (Kd.R (Kd.int .i64) 3 w104 w.heap.size (fun _ => True) (.slice Ao14 t328.length co14) t328) := ⟨by rw [← hq_]; exact (zR HO_334000.1)⟩; have n1_ : Aside0 (w104.heap[gb325]? = some (.cells #[.slice (some ad338) l0_0.length c0_0, .int .i64 a0_1, .int .i64 a0_2] 29 (0, 0))) := ⟨by rw [← hq_]; exact (zK BK325.1)⟩; have n2_ : Aside0 (w104.heap[gb326]? = some (.cells #[.int .i64 a1_0, .int .i64 a1_1, .int .i64 a1_2, .int .i64 a1_3, .int .i64 a1_4] 59 (0, 0))) := ⟨by rw [← hq_]; exact (zK BK326.1)⟩; have n3_ : Aside0 (w104.heap[gb327]? = some (.cells #[.slice none 0 0, .int .i64 0, .int .i64 0] 29 (0, 0))) := ⟨by rw [← hq_]; exact (zK BK327.1)⟩; have n4_ : Aside0 (w104.heap[gb333]? = some (.cells #[.slice Ao14 t328.length co14, .int .i64 t336, .int .i64 t332] 29 (0, 0))) := ⟨by rw [← hq_]; exact (zK BK333.1)⟩; have n5_ : Aside0 (Below w.heap.size w w104) := ⟨by rw [← hq_]; exact zB41⟩; clear HO_334000 BK325 BK326 BK327 BK333 HB hq_; have HO_334000 := n0_; have BK325 := n1_; have BK326 := n2_; have BK327 := n3_; have BK333 := n4_; have HB := n5_; clear n0_ n1_ n2_ n3_ n4_ n5_))
       have p103 : 0 ≤ (a1_1 : Int) := zA
       have q103 : (a1_1 : Int) < ((t328.length : Int) : Int) := zA
       obtain ⟨go103, co103, eo103, gb103, gl103, cl103, HG103⟩ := Kd.R_form HO_334000.1 (by omega)
       (first | cases eo103 | (injection eo103 with ea_ en_ ec_; (first | subst ea_ | (injection ea_ with ea_; subst ea_)); subst ec_; clear en_))
       have GB103 := zM gb103
       have GG103 := zM HG103
       clear gb103 gl103 HG103
       obtain ⟨hx103_0, hf103_0⟩ := Kd.R_celln 0 HO_334000.1 (a1_1 : Int) p103 q103
       replace p103 := eq_true p103
       replace q103 := eq_true q103
       have HP105 := Kd.R_putn HO_334000.1 (a1_1 : Int) t345
       rw [← Ny346.1] at HP105
       have HQ105 := zM HP105
       clear HP105
       refine hK.out _ _ ⟨(blk_cell BK333.1 0).trans rfl, (blk_cell BK333.1 1).trans rfl, (blk_cell BK333.1 2).trans rfl, (blk_cell BK326.1 0).trans rfl, (blk_cell BK326.1 1).trans rfl, (blk_cell BK326.1 2).trans rfl, (blk_cell BK326.1 3).trans rfl, (blk_cell BK326.1 4).trans rfl⟩ (fun hHeld => ?_)
       clear hK K
       refine norm_ (a' := ?_) ?_ ?_
       rotate_left
       ·show Act.put _ (some 96) _ = _
        simp only [Act.put, List.setIfInBounds_toArray, List.set_cons_zero, List.set_cons_succ, i64_w, i32_w]
        rfl
       refine pure_ (i := 9) (N := some 97) (v := ?_) (a' := ?_) #[true, true, true, true, true, true, true, true, true, true, false] rfl rfl (any_of HT_.1 (by kernel_rfl)) (fun _ _ _ h => h) (Or.inl ⟨by rfl, ?_⟩) ?_ ?_
       rotate_left
       ·intro w'
        go_simp
        with_reducible rfl
       rotate_left
       ·exact zV
       refine last_ (i := 10) (N := none) #[true, true, true, true, true, true, true, true, true, true, true] rfl rfl (one_of HT_.1 (by kernel_rfl)) (by decide) (fun K hK => ?_)
       refine skip_ (w1 := ?_) (by rfl) rfl ?_ ?_
       rotate_left
       ·go_simp
        rfl
       refine hK.out _ _ ?_
       clear hK K
       refine done_ (done_of HT_.1 (by kernel_rfl)) ?_
       try go_wp2
       go_meet
       case rel => exact ⟨_, ((-1)), (y346), (t336), (t332), (.slice (some ⟨go103, 0, none⟩) t328.length co14), zJJ, H', ⟨by have := HJ4.1; have := HJ54.1; first | omega | exact Nat.le_refl _⟩, ⟨zR HQ105.out⟩, ⟨by refine zP ?_; refine blk_far ?_ (by have h_ := Kd.R_ne HO_334000.1 BK325.1 (by decide); intro e_; exact h_ (by rw [e_]; rfl)) _; refine zP ?_; exact BK325.1⟩, ⟨by refine zP ?_; refine blk_far ?_ (by have h_ := Kd.R_ne HO_334000.1 BK326.1 (by decide); intro e_; exact h_ (by rw [e_]; rfl)) _; refine zP ?_; exact BK326.1⟩, ⟨by refine zP ?_; refine blk_far ?_ (by have h_ := Kd.R_ne HO_334000.1 BK327.1 (by decide); intro e_; exact h_ (by rw [e_]; rfl)) _; refine zP ?_; exact BK327.1⟩, ⟨by refine zP ?_; refine blk_far ?_ (by have h_ := Kd.R_ne HO_334000.1 BK333.1 (by decide); intro e_; exact h_ (by rw [e_]; rfl)) _; refine zP ?_; exact BK333.1⟩, ⟨zB44⟩⟩
      rw [if_neg c99] at H
      have c99b0 : (x54_54 == 3) = false := beq_eq_false_iff_ne.mpr c99
      have c99b1 : (x54_54 != 3) = true := bne_iff_ne.mpr c99
      by_cases c106 : x54_54 = 4
      ·rw [if_pos c106] at H
       have c106b0 : (x54_54 == 4) = true := beq_iff_eq.mpr c106
       have c106b1 : (x54_54 != 4) = false := bne_eq_false_iff_eq.mpr c106
       clear c106
       by_cases c107 : 0 ≤ a1_1
       rotate_left
       ·rw [if_neg c107] at H
        exact absurd H (by simp)
       rw [if_pos c107] at H
       have c107b0 := decide_eq_true c107
       clear c107
       by_cases c108 : a1_1 < (t328.length : Int)
       rotate_left
       ·rw [if_neg c108] at H
        exact absurd H (by simp)
       rw [if_pos c108] at H
       have c108b0 := decide_eq_true c108
       clear c108
       obtain ⟨y347, hy347⟩ : ∃ y_ : List Int, y_ = (t328.set (a1_1 : Int).toNat a2) := ⟨_, rfl⟩
       replace H : (spec_Work.j2 kj54 (-1) y347 t336 t332) = some (r1, r2, r3, r4) := by first | (rw [hy347]; with_reducible exact H) | (have H2_ := (Option.bind_some _ _).symm.trans H; rw [hy347]; with_reducible exact H2_) | (have H2_ := (Option.bind_some _ _).symm.trans H; with_reducible exact H2_) | with_reducible exact H | (rw [hy347]; exact H) | exact H
       have Ny347 := zM hy347
       clear hy347
       have H' := zM H
       clear H
       have hnb110 := NB333_325.1
       have hnc110 := NB325_333.1
       have hnb111 := NB333_326.1
       have hnc111 := NB326_333.1
       have hnb112 := NB333_327.1
       have hnc112 := NB327_333.1
       have hcz113 := zc_3 (w := wc) BK333.1
       have hnb114 := NB326_325.1
       have hnc114 := NB325_326.1
       have hnb115 := NB326_327.1
       have hnc115 := NB327_326.1
       have hcz116 := zc_5 (w := wc) BK326.1
       have p109 : 0 ≤ (a1_1 : Int) := zA
       have q109 : (a1_1 : Int) < ((t328.length : Int) : Int) := zA
       obtain ⟨go109, co109, eo109, gb109, gl109, cl109, HG109⟩ := Kd.R_form HO_334000.1 (by omega)
       (first | cases eo109 | (injection eo109 with ea_ en_ ec_; (first | subst ea_ | (injection ea_ with ea_; subst ea_)); subst ec_; clear en_))
       have GB109 := zM gb109
       have GG109 := zM HG109
       clear gb109 gl109 HG109
       obtain ⟨hx109_0, hf109_0⟩ := Kd.R_celln 0 HO_334000.1 (a1_1 : Int) p109 q109
       replace p109 := eq_true p109
       replace q109 := eq_true q109
       have HP117 := Kd.R_putg HO_334000.1 (a1_1 : Int) a2
       go_wp2_with (first | ((with_reducible refine gate_store (t := 3) (p := 105) rfl ?_); refine store_event (t := 3) (p := 105) (v := ?vo_w118) (w1 := (wc.setCell ⟨go109, (a1_1 : Int).toNat, none⟩ (.int .i64 a2))) ?hg ?ho ?hn ?hr ?_; (case ho => rfl); (case hg => rfl); (case hn => rfl); (case hr => exact zHH); intro w118 hw; have hg : wc.grownBy w118 (some go109) := (by rw [hw]; exact HP117.2); have hp_ : Kd.R (Kd.int .i64) 3 w118 w.heap.size (fun _ => True) (.slice (some ⟨go109, 0, none⟩) t328.length co14) y347 := (by rw [hw, Ny347.1]; exact HP117.1); clear HP117; replace BK325 := zM (zg BK325.1 hg (Kd.R_ne HO_334000.1 BK325.1 (by decide))); replace BK326 := zM (zg BK326.1 hg (Kd.R_ne HO_334000.1 BK326.1 (by decide))); replace BK327 := zM (zg BK327.1 hg (Kd.R_ne HO_334000.1 BK327.1 (by decide))); replace BK333 := zM (zg BK333.1 hg (Kd.R_ne HO_334000.1 BK333.1 (by decide))); replace HO_334000 := zM hp_; replace HB := zM ((by rw [hw]; exact below_set (HB.1) GB109.1 : Below w.heap.size w w118)); clear hg hw hp_))
       go_meet
       case rel => exact ⟨_, ((-1)), (y347), (t336), (t332), (.slice (some ⟨go109, 0, none⟩) t328.length co14), zJJ, H', ⟨by have := HJ4.1; have := HJ54.1; first | omega | exact Nat.le_refl _⟩, ⟨zR HO_334000.1⟩, ⟨zK BK325.1⟩, ⟨zK BK326.1⟩, ⟨zK BK327.1⟩, ⟨zK BK333.1⟩, ⟨zB41⟩⟩
      rw [if_neg c106] at H
      have c106b0 : (x54_54 == 4) = false := beq_eq_false_iff_ne.mpr c106
      have c106b1 : (x54_54 != 4) = true := bne_iff_ne.mpr c106
      by_cases c119 : x54_54 = 5
      ·rw [if_pos c119] at H
       have c119b0 : (x54_54 == 5) = true := beq_iff_eq.mpr c119
       have c119b1 : (x54_54 != 5) = false := bne_eq_false_iff_eq.mpr c119
       clear c119
       have H' := zM H
       clear H
       go_wp2
       go_meet
       case rel => exact ⟨_, ((rd l0_0 a1_3)), (t328), (t336), (t332), (.slice Ao14 t328.length co14), zJJ, H', ⟨by have := HJ4.1; have := HJ54.1; first | omega | exact Nat.le_refl _⟩, ⟨zR HO_334000.1⟩, ⟨zK BK325.1⟩, ⟨zK BK326.1⟩, ⟨zK BK327.1⟩, ⟨zK BK333.1⟩, ⟨zB41⟩⟩
      rw [if_neg c119] at H
      have c119b0 : (x54_54 == 5) = false := beq_eq_false_iff_ne.mpr c119
      have c119b1 : (x54_54 != 5) = true := bne_iff_ne.mpr c119
      by_cases c120 : x54_54 = 6
      ·rw [if_pos c120] at H
       have c120b0 : (x54_54 == 6) = true := beq_iff_eq.mpr c120
       have c120b1 : (x54_54 != 6) = false := bne_eq_false_iff_eq.mpr c120
       clear c120
       by_cases c121 : 0 ≤ a1_1
       rotate_left
       ·rw [if_neg c121] at H
        exact absurd H (by simp)
       rw [if_pos c121] at H
       have c121b0 := decide_eq_true c121
       clear c121
       by_cases c122 : a1_1 < (t328.length : Int)
       rotate_left
       ·rw [if_neg c122] at H
        exact absurd H (by simp)
       rw [if_pos c122] at H
       have c122b0 := decide_eq_true c122
       clear c122
       obtain ⟨y348, hy348⟩ : ∃ y_ : List Int, y_ = (t328.set (a1_1 : Int).toNat a2) := ⟨_, rfl⟩
       replace H : ((spec_l9Word.f (wrap64 (a2 + (rd l0_0 a1_3)))).bind fun t349 => (spec_Work.j2 kj54 t349 y348 t336 t332)) = some (r1, r2, r3, r4) := by first | (rw [hy348]; with_reducible exact H) | (have H2_ := (Option.bind_some _ _).symm.trans H; rw [hy348]; with_reducible exact H2_) | (have H2_ := (Option.bind_some _ _).symm.trans H; with_reducible exact H2_) | with_reducible exact H | (rw [hy348]; exact H) | exact H
       have Ny348 := zM hy348
       clear hy348
       replace H := zO H
       obtain ⟨t349, A124, H⟩ := H
       have H' := zM H
       clear H
       have hnb125 := NB333_325.1
       have hnc125 := NB325_333.1
       have hnb126 := NB333_326.1
       have hnc126 := NB326_333.1
       have hnb127 := NB333_327.1
       have hnc127 := NB327_333.1
       have hcz128 := zc_3 (w := wc) BK333.1
       have hnb129 := NB326_325.1
       have hnc129 := NB325_326.1
       have hnb130 := NB326_327.1
       have hnc130 := NB327_326.1
       have hcz131 := zc_5 (w := wc) BK326.1
       have p123 : 0 ≤ (a1_1 : Int) := zA
       have q123 : (a1_1 : Int) < ((t328.length : Int) : Int) := zA
       obtain ⟨go123, co123, eo123, gb123, gl123, cl123, HG123⟩ := Kd.R_form HO_334000.1 (by omega)
       (first | cases eo123 | (injection eo123 with ea_ en_ ec_; (first | subst ea_ | (injection ea_ with ea_; subst ea_)); subst ec_; clear en_))
       have GB123 := zM gb123
       have GG123 := zM HG123
       clear gb123 gl123 HG123
       obtain ⟨hx123_0, hf123_0⟩ := Kd.R_celln 0 HO_334000.1 (a1_1 : Int) p123 q123
       replace p123 := eq_true p123
       replace q123 := eq_true q123
       have HP132 := Kd.R_putg HO_334000.1 (a1_1 : Int) a2
       go_wp2_with (first | ((with_reducible refine gate_store (t := 3) (p := 116) rfl ?_); refine store_event (t := 3) (p := 116) (v := ?vo_w133) (w1 := (wc.setCell ⟨go123, (a1_1 : Int).toNat, none⟩ (.int .i64 a2))) ?hg ?ho ?hn ?hr ?_; (case ho => rfl); (case hg => rfl); (case hn => rfl); (case hr => exact zHH); intro w133 hw; have hg : wc.grownBy w133 (some go123) := (by rw [hw]; exact HP132.2); have hp_ : Kd.R (Kd.int .i64) 3 w133 w.heap.size (fun _ => True) (.slice (some ⟨go123, 0, none⟩) t328.length co14) y348 := (by rw [hw, Ny348.1]; exact HP132.1); clear HP132; replace BK325 := zM (zg BK325.1 hg (Kd.R_ne HO_334000.1 BK325.1 (by decide))); replace BK326 := zM (zg BK326.1 hg (Kd.R_ne HO_334000.1 BK326.1 (by decide))); replace BK327 := zM (zg BK327.1 hg (Kd.R_ne HO_334000.1 BK327.1 (by decide))); replace BK333 := zM (zg BK333.1 hg (Kd.R_ne HO_334000.1 BK333.1 (by decide))); replace HO_334000 := zM hp_; replace HB := zM ((by rw [hw]; exact below_set (HB.1) GB123.1 : Below w.heap.size w w133)); clear hg hw hp_) | ((with_reducible refine gate_callee (f := 126) rfl ?_); refine goesL_ (some 120) rfl rfl Try.func126 (by kernel_rfl) rfl #[.int .i64 (wrap64 (a2 + (rd l0_0 a1_3)))] rfl zT ?_; (with_reducible refine (spec_l9Word.calls (wrap64 (a2 + (rd l0_0 a1_3))) t349 _ A124.1).mono ?_); rintro e w' ⟨rfl, ⟨nd, rfl⟩⟩; refine ⟨_, rfl, ?_⟩))
       go_meet
       case rel => exact ⟨_, (t349), (y348), (t336), (t332), (.slice (some ⟨go123, 0, none⟩) t328.length co14), zJJ, H', ⟨by have := HJ4.1; have := HJ54.1; first | omega | exact Nat.le_refl _⟩, ⟨zR HO_334000.1⟩, ⟨zK BK325.1⟩, ⟨zK BK326.1⟩, ⟨zK BK327.1⟩, ⟨zK BK333.1⟩, ⟨zB41⟩⟩
      rw [if_neg c120] at H
      have c120b0 : (x54_54 == 6) = false := beq_eq_false_iff_ne.mpr c120
      have c120b1 : (x54_54 != 6) = true := bne_iff_ne.mpr c120
      by_cases c134 : x54_54 = 7
      ·rw [if_pos c134] at H
       have c134b0 : (x54_54 == 7) = true := beq_iff_eq.mpr c134
       have c134b1 : (x54_54 != 7) = false := bne_eq_false_iff_eq.mpr c134
       clear c134
       by_cases c135 : (rd l0_0 a1_2) = 0
       rotate_left
       ·rw [if_neg c135] at H
        have c135b0 : ((rd l0_0 a1_2) == 0) = false := beq_eq_false_iff_ne.mpr c135
        have c135b1 : ((rd l0_0 a1_2) != 0) = true := bne_iff_ne.mpr c135
        have H' := zM H
        clear H
        go_wp2
        go_meet
        case rel => exact ⟨_, ((-1)), (t328), (t336), (t332), (.slice Ao14 t328.length co14), zJJ, H', ⟨by have := HJ4.1; have := HJ54.1; first | omega | exact Nat.le_refl _⟩, ⟨zR HO_334000.1⟩, ⟨zK BK325.1⟩, ⟨zK BK326.1⟩, ⟨zK BK327.1⟩, ⟨zK BK333.1⟩, ⟨zB41⟩⟩
       rw [if_pos c135] at H
       have c135b0 : ((rd l0_0 a1_2) == 0) = true := beq_iff_eq.mpr c135
       have c135b1 : ((rd l0_0 a1_2) != 0) = false := bne_eq_false_iff_eq.mpr c135
       clear c135
       replace H := zO H
       obtain ⟨t350, A136, H⟩ := H
       have H' := zM H
       clear H
       have hnb137 := NB326_325.1
       have hnc137 := NB325_326.1
       have hnb138 := NB326_327.1
       have hnc138 := NB327_326.1
       have hnb139 := NB326_333.1
       have hnc139 := NB333_326.1
       have hcz140 := zc_5 (w := wc) BK326.1
       go_wp2_with (first | ((with_reducible refine gate_callee (f := 125) rfl ?_); refine goesL_ (some 127) rfl rfl Try.func125 (by kernel_rfl) rfl #[.int .i64 a1_4] rfl zT ?_; (with_reducible refine (spec_l9Address.calls a1_4 t350 _ A136.1).mono ?_); rintro e w' ⟨rfl, ⟨nd, rfl⟩⟩; refine ⟨_, rfl, ?_⟩; (try (rw [drewN_self wc]; generalize hq_ : World.drewN wc _ = wc; have n0_ : Aside0 (Kd.R (Kd.int .i64) 3 wc w.heap.size (fun _ => True) (.slice Ao14 t328.length co14) t328) := ⟨by rw [← hq_]; exact (zR HO_334000.1)⟩; have n1_ : Aside0 (wc.heap[gb325]? = some (.cells #[.slice (some ad338) l0_0.length c0_0, .int .i64 a0_1, .int .i64 a0_2] 29 (0, 0))) := ⟨by rw [← hq_]; exact (zK BK325.1)⟩; have n2_ : Aside0 (wc.heap[gb326]? = some (.cells #[.int .i64 a1_0, .int .i64 a1_1, .int .i64 a1_2, .int .i64 a1_3, .int .i64 a1_4] 59 (0, 0))) := ⟨by rw [← hq_]; exact (zK BK326.1)⟩; have n3_ : Aside0 (wc.heap[gb327]? = some (.cells #[.slice none 0 0, .int .i64 0, .int .i64 0] 29 (0, 0))) := ⟨by rw [← hq_]; exact (zK BK327.1)⟩; have n4_ : Aside0 (wc.heap[gb333]? = some (.cells #[.slice Ao14 t328.length co14, .int .i64 t336, .int .i64 t332] 29 (0, 0))) := ⟨by rw [← hq_]; exact (zK BK333.1)⟩; have n5_ : Aside0 (Below w.heap.size w wc) := ⟨by rw [← hq_]; exact zB41⟩; clear HO_334000 BK325 BK326 BK327 BK333 HB hq_; have HO_334000 := n0_; have BK325 := n1_; have BK326 := n2_; have BK327 := n3_; have BK333 := n4_; have HB := n5_; clear n0_ n1_ n2_ n3_ n4_ n5_)); have hnb141 := NB333_325.1; have hnc141 := NB325_333.1; have hnb142 := NB333_327.1; have hnc142 := NB327_333.1; have hcz143 := zc_3 (w := wc) BK333.1))
       go_meet
       case rel => exact ⟨_, ((-1)), (t328), (t350), (t332), (.slice Ao14 t328.length co14), zJJ, H', ⟨by have := HJ4.1; have := HJ54.1; first | omega | exact Nat.le_refl _⟩, ⟨by refine zrR ?_; exact Kd.R_mono (Kd.R_far (p := ⟨gb333, 1, none⟩) (Kd.R_types HO_334000.1 BK333.1 (by decide)) (fun _ hk => hk.2) (.int .i64 t350)) (fun _ hk => trivial)⟩, ⟨by refine zP ?_; refine blk_far ?_ NB325_333.1 _; refine zP ?_; exact BK325.1⟩, ⟨by refine zP ?_; refine blk_far ?_ NB326_333.1 _; refine zP ?_; exact BK326.1⟩, ⟨by refine zP ?_; refine blk_far ?_ NB327_333.1 _; refine zP ?_; exact BK327.1⟩, ⟨by refine zP ?_; refine blk_put (cs := #[.slice Ao14 t328.length co14, .int .i64 t336, .int .i64 t332]) ?_ 1 _ rfl; refine zP ?_; exact BK333.1⟩, ⟨zB41⟩⟩
      rw [if_neg c134] at H
      have c134b0 : (x54_54 == 7) = false := beq_eq_false_iff_ne.mpr c134
      have c134b1 : (x54_54 != 7) = true := bne_iff_ne.mpr c134
      by_cases c144 : x54_54 = 8
      rotate_left
      ·rw [if_neg c144] at H
       have c144b0 : (x54_54 == 8) = false := beq_eq_false_iff_ne.mpr c144
       have c144b1 : (x54_54 != 8) = true := bne_iff_ne.mpr c144
       by_cases c153 : x54_54 = 9
       rotate_left
       ·rw [if_neg c153] at H
        have c153b0 : (x54_54 == 9) = false := beq_eq_false_iff_ne.mpr c153
        have c153b1 : (x54_54 != 9) = true := bne_iff_ne.mpr c153
        have H' := zM H
        clear H
        go_wp2
        go_meet
        case rel => exact ⟨_, ((-1)), (t328), (t336), (t332), (.slice Ao14 t328.length co14), zJJ, H', ⟨by have := HJ4.1; have := HJ54.1; first | omega | exact Nat.le_refl _⟩, ⟨zR HO_334000.1⟩, ⟨zK BK325.1⟩, ⟨zK BK326.1⟩, ⟨zK BK327.1⟩, ⟨zK BK333.1⟩, ⟨zB41⟩⟩
       rw [if_pos c153] at H
       have c153b0 : (x54_54 == 9) = true := beq_iff_eq.mpr c153
       have c153b1 : (x54_54 != 9) = false := bne_eq_false_iff_eq.mpr c153
       clear c153
       have H' := zM H
       clear H
       have hnb154 := NB325_326.1
       have hnc154 := NB326_325.1
       have hnb155 := NB325_327.1
       have hnc155 := NB327_325.1
       have hnb156 := NB325_333.1
       have hnc156 := NB333_325.1
       have hcz157 := zc_3 (w := wc) BK325.1
       have hnb158 := NB333_326.1
       have hnc158 := NB326_333.1
       have hnb159 := NB333_327.1
       have hnc159 := NB327_333.1
       have hcz160 := zc_3 (w := wc) BK333.1
       go_wp2
       go_meet
       case rel => exact ⟨_, ((-1)), (t328), (a0_1), (1), (.slice Ao14 t328.length co14), zJJ, H', ⟨by have := HJ4.1; have := HJ54.1; first | omega | exact Nat.le_refl _⟩, ⟨by refine zrR ?_; exact Kd.R_mono (Kd.R_far (p := ⟨gb333, 2, none⟩) (Kd.R_far (p := ⟨gb333, 1, none⟩) (Kd.R_types HO_334000.1 BK333.1 (by decide)) (fun _ hk => hk.2) (.int .i64 a0_1)) (fun _ hk => hk.2) (.int .i64 1)) (fun _ hk => trivial)⟩, ⟨by refine zP ?_; refine blk_far ?_ NB325_333.1 _; refine zP ?_; refine blk_far ?_ NB325_333.1 _; refine zP ?_; exact BK325.1⟩, ⟨by refine zP ?_; refine blk_far ?_ NB326_333.1 _; refine zP ?_; refine blk_far ?_ NB326_333.1 _; refine zP ?_; exact BK326.1⟩, ⟨by refine zP ?_; refine blk_far ?_ NB327_333.1 _; refine zP ?_; refine blk_far ?_ NB327_333.1 _; refine zP ?_; exact BK327.1⟩, ⟨by refine zP ?_; refine blk_put (cs := #[.slice Ao14 t328.length co14, .int .i64 a0_1, .int .i64 t332]) ?_ 2 _ rfl; refine zP ?_; refine blk_put (cs := #[.slice Ao14 t328.length co14, .int .i64 t336, .int .i64 t332]) ?_ 1 _ rfl; refine zP ?_; exact BK333.1⟩, ⟨zB41⟩⟩
      rw [if_pos c144] at H
      have c144b0 : (x54_54 == 8) = true := beq_iff_eq.mpr c144
      have c144b1 : (x54_54 != 8) = false := bne_eq_false_iff_eq.mpr c144
      clear c144
      replace H := zO H
      obtain ⟨t351, A145, H⟩ := H
      have H' := zM H
      clear H
      have hnb146 := NB326_325.1
      have hnc146 := NB325_326.1
      have hnb147 := NB326_327.1
      have hnc147 := NB327_326.1
      have hnb148 := NB326_333.1
      have hnc148 := NB333_326.1
      have hcz149 := zc_5 (w := wc) BK326.1
      go_wp2_with (first | ((with_reducible refine gate_callee (f := 125) rfl ?_); refine goesL_ (some 133) rfl rfl Try.func125 (by kernel_rfl) rfl #[.int .i64 a1_4] rfl zT ?_; (with_reducible refine (spec_l9Address.calls a1_4 t351 _ A145.1).mono ?_); rintro e w' ⟨rfl, ⟨nd, rfl⟩⟩; refine ⟨_, rfl, ?_⟩; (try (rw [drewN_self wc]; generalize hq_ : World.drewN wc _ = wc; have n0_ : Aside0 (Kd.R (Kd.int .i64) 3 wc w.heap.size (fun _ => True) (.slice Ao14 t328.length co14) t328) := ⟨by rw [← hq_]; exact (zR HO_334000.1)⟩; have n1_ : Aside0 (wc.heap[gb325]? = some (.cells #[.slice (some ad338) l0_0.length c0_0, .int .i64 a0_1, .int .i64 a0_2] 29 (0, 0))) := ⟨by rw [← hq_]; exact (zK BK325.1)⟩; have n2_ : Aside0 (wc.heap[gb326]? = some (.cells #[.int .i64 a1_0, .int .i64 a1_1, .int .i64 a1_2, .int .i64 a1_3, .int .i64 a1_4] 59 (0, 0))) := ⟨by rw [← hq_]; exact (zK BK326.1)⟩; have n3_ : Aside0 (wc.heap[gb327]? = some (.cells #[.slice none 0 0, .int .i64 0, .int .i64 0] 29 (0, 0))) := ⟨by rw [← hq_]; exact (zK BK327.1)⟩; have n4_ : Aside0 (wc.heap[gb333]? = some (.cells #[.slice Ao14 t328.length co14, .int .i64 t336, .int .i64 t332] 29 (0, 0))) := ⟨by rw [← hq_]; exact (zK BK333.1)⟩; have n5_ : Aside0 (Below w.heap.size w wc) := ⟨by rw [← hq_]; exact zB41⟩; clear HO_334000 BK325 BK326 BK327 BK333 HB hq_; have HO_334000 := n0_; have BK325 := n1_; have BK326 := n2_; have BK327 := n3_; have BK333 := n4_; have HB := n5_; clear n0_ n1_ n2_ n3_ n4_ n5_)); have hnb150 := NB333_325.1; have hnc150 := NB325_333.1; have hnb151 := NB333_327.1; have hnc151 := NB327_333.1; have hcz152 := zc_3 (w := wc) BK333.1))
      go_meet
      case rel => exact ⟨_, ((-1)), (t328), (t351), (t332), (.slice Ao14 t328.length co14), zJJ, H', ⟨by have := HJ4.1; have := HJ54.1; first | omega | exact Nat.le_refl _⟩, ⟨by refine zrR ?_; exact Kd.R_mono (Kd.R_far (p := ⟨gb333, 1, none⟩) (Kd.R_types HO_334000.1 BK333.1 (by decide)) (fun _ hk => hk.2) (.int .i64 t351)) (fun _ hk => trivial)⟩, ⟨by refine zP ?_; refine blk_far ?_ NB325_333.1 _; refine zP ?_; exact BK325.1⟩, ⟨by refine zP ?_; refine blk_far ?_ NB326_333.1 _; refine zP ?_; exact BK326.1⟩, ⟨by refine zP ?_; refine blk_far ?_ NB327_333.1 _; refine zP ?_; exact BK327.1⟩, ⟨by refine zP ?_; refine blk_put (cs := #[.slice Ao14 t328.length co14, .int .i64 t336, .int .i64 t332]) ?_ 1 _ rfl; refine zP ?_; exact BK333.1⟩, ⟨zB41⟩⟩
     case rest =>
      clear HC71
      try clear c1
      try clear p1
      try clear q1
      try clear hx1
      try clear p2
      try clear p6
      try clear c8
      try clear c9
      try clear p9
      try clear q9
      try clear hx9
      try clear hf9
      try clear c10
      try clear p10
      try clear q10
      try clear hx10
      try clear hf10
      try clear c11
      try clear c12
      try clear p12
      try clear q12
      try clear hx12
      try clear hf12
      try clear c13
      try clear c14
      try clear c15
      try clear p64
      try clear c85
      try clear c85b0
      try clear c85b1
      try clear c87
      try clear c88
      try clear c92
      try clear c92b0
      try clear c92b1
      try clear c94
      try clear c94b0
      try clear c95
      try clear c95b0
      try clear p96
      try clear q96
      try clear hx96
      try clear hf96
      try clear c99
      try clear c99b0
      try clear c99b1
      try clear c101
      try clear c101b0
      try clear c102
      try clear c102b0
      try clear p103
      try clear q103
      try clear hx103
      try clear hf103
      try clear c106
      try clear c106b0
      try clear c106b1
      try clear c107
      try clear c107b0
      try clear c108
      try clear c108b0
      try clear p109
      try clear q109
      try clear hx109
      try clear hf109
      try clear c110
      try clear c111
      try clear c112
      try clear c114
      try clear c115
      try clear c119
      try clear c119b0
      try clear c119b1
      try clear c120
      try clear c120b0
      try clear c120b1
      try clear c121
      try clear c121b0
      try clear c122
      try clear c122b0
      try clear p123
      try clear q123
      try clear hx123
      try clear hf123
      try clear c125
      try clear c126
      try clear c127
      try clear c129
      try clear c130
      try clear c134
      try clear c134b0
      try clear c134b1
      try clear c135
      try clear c135b0
      try clear c135b1
      try clear c137
      try clear c138
      try clear c139
      try clear c141
      try clear c142
      try clear c144
      try clear c144b0
      try clear c144b1
      try clear c146
      try clear c147
      try clear c148
      try clear c150
      try clear c151
      try clear c153
      try clear c153b0
      try clear c153b1
      try clear c154
      try clear c155
      try clear c156
      try clear c158
      try clear c159
      try clear hcz113
      try clear hcz116
      try clear hcz128
      try clear hcz131
      try clear hcz140
      try clear hcz143
      try clear hcz149
      try clear hcz152
      try clear hcz157
      try clear hcz160
      try clear hx103_0
      try clear hx109_0
      try clear hx123_0
      try clear hx96_0
      try clear p103
      try clear p109
      try clear p123
      try clear p96
      try clear q103
      try clear q109
      try clear q123
      try clear q96
      obtain ⟨kq, x9_70, x334000_70, x334001_70, x334002_70, u334000, rfl, HA, HJ70, HO_334000, BK325, BK326, BK327, BK333, HB⟩ := hcut
      cases kq with
      | zero => exact absurd HA.1 (by simp [spec_Work.j2])
      | succ kj70 =>
       have H := HA.1
       clear HA
       simp only [spec_Work.j2] at H
       simp only [Option.some.injEq, Prod.mk.injEq] at H
       obtain ⟨rfl, rfl, rfl, rfl⟩ := H
       have hnb161 := NB333_325.1
       have hnc161 := NB325_333.1
       have hnb162 := NB333_326.1
       have hnc162 := NB326_333.1
       have hnb163 := NB333_327.1
       have hnc163 := NB327_333.1
       have hcz164 := zc_3 (w := wc) BK333.1
       obtain ⟨Ao165, co165, eo165⟩ := Kd.R_slice HO_334000.1
       subst eo165
       have hnb166 := NB327_325.1
       have hnc166 := NB325_327.1
       have hnb167 := NB327_326.1
       have hnc167 := NB326_327.1
       have hcz168 := zc_3 (w := wc) BK327.1
       go_wp2
       refine bodyPost_ret (results_ct rfl _ _ gb327 29 #[.slice Ao165 x334000_70.length co165, .int .i64 x334001_70, .int .i64 x334002_70] (0, 0) _ rfl (by exact zp3 (zK BK327.1)) Try.underlying29 rfl (by kernel_rfl)) rfl ?_
       exact ⟨_, zE, by refine zrR ?_; exact Kd.R_mono (Kd.R_far (p := ⟨gb327, 2, none⟩) (Kd.R_far (p := ⟨gb327, 1, none⟩) (Kd.R_far (p := ⟨gb327, 0, none⟩) (Kd.R_types HO_334000.1 BK327.1 (by decide)) (fun _ hk => hk.2) (.slice Ao165 x334000_70.length co165)) (fun _ hk => hk.2) (.int .i64 x334001_70)) (fun _ hk => hk.2) (.int .i64 x334002_70)) (fun _ hk => trivial), zB41⟩

end Go.Proofs.Ytnjdepmlpdjghaa.PFnExactEver
