-- made by wip/tools/myprint.py out of the seat's translation
import Derived.Test.YtnjdepmlpdjghaaPFnExactEverx0
import Derived.Test.YtnjdepmlpdjghaaPFnExactEverx10
import Derived.Test.YtnjdepmlpdjghaaPFnExactEverx11
import Derived.Test.YtnjdepmlpdjghaaPFnExactEverx12
namespace Go.Proofs.Ytnjdepmlpdjghaa.PFnExactEver
open Go.RowKit Go.Proofs.YtnjdepmlpdjghaaW.PrintWords Go.Proofs.YtnjdepmlpdjghaaW.PrintLast Go.Proofs.YtnjdepmlpdjghaaW.PrintMore
attribute [local go_sem] max2_int min2_int max_two min_two max_three min_three max_four min_four   -- for this text's walks alone
set_option linter.unusedVariables false
set_option linter.unusedSimpArgs false
set_option maxHeartbeats 8000000
set_option maxRecDepth 100000

/-! ### spec_FlatStep: function 77 -/
def spec_FlatStep.j0 : Nat → List Int → List Int → Bool → List Int → Int → Int → Option (List Int × List Int × Int × Int)
 | 0, _, _, _, _, _, _ => none
 | k + 1, x0, x6, x28, x353000, x353001, x353002 => if x28 = true then ((spec_l9Copy.f x353000 x353001 x353002).bind fun bt362 => (some (x6, bt362.1, bt362.2.1, bt362.2.2))) else (if 0 ≤ x353001 then (if x353001 < (x0.length : Int) then ((spec_Decode.f (rd x0 x353001)).bind fun bt368 => ((spec_Target.f bt368.1 bt368.2.1 bt368.2.2.1 bt368.2.2.2.1 bt368.2.2.2.2.1 x353000).bind fun t375 => (if t375 ≥ 0 then (if 0 ≤ t375 then (if t375 < (x0.length : Int) then ((spec_Work.f k x353000 x353001 x353002 bt368.1 bt368.2.1 bt368.2.2.1 bt368.2.2.2.1 bt368.2.2.2.2.1 (rd x0 t375)).bind fun bt377 => (if bt377.2.2.2 ≥ 0 then (if t375 < (x6.length : Int) then (some ((x6.set (t375 : Int).toNat bt377.2.2.2), bt377.1, bt377.2.1, bt377.2.2.1)) else (none)) else (some (x6, bt377.1, bt377.2.1, bt377.2.2.1)))) else (none)) else (none)) else ((spec_Work.f k x353000 x353001 x353002 bt368.1 bt368.2.1 bt368.2.2.1 bt368.2.2.2.1 bt368.2.2.2.2.1 0).bind fun bt385 => (if bt385.2.2.2 ≥ 0 then (if 0 ≤ t375 then (if t375 < (x6.length : Int) then (some ((x6.set (t375 : Int).toNat bt385.2.2.2), bt385.1, bt385.2.1, bt385.2.2.1)) else (none)) else (none)) else (some (x6, bt385.1, bt385.2.1, bt385.2.2.1))))))) else (none)) else (none))
def spec_FlatStep.f (k : Nat) (l0 : List Int) (l1_0 : List Int) (a1_1 : Int) (a1_2 : Int) : Option (List Int × List Int × Int × Int) := (some (([] : List Int) : List Int)).bind fun y354 => (if y354.length + l0.length < 17592186044416 then ((some (y354 ++ l0 : List Int)).bind fun y357 => ((spec_l1Words.f k l0 24).bind fun t360 => (if t360 = true then ((spec_HartOk.f k l1_0 a1_1 a1_2).bind fun t361 => (if t361 = true then (spec_FlatStep.j0 k l0 y357 (a1_2 != 0) l1_0 a1_1 a1_2) else (spec_FlatStep.j0 k l0 y357 true l1_0 a1_1 a1_2))) else (spec_FlatStep.j0 k l0 y357 true l1_0 a1_1 a1_2)))) else (none))
theorem spec_FlatStep.mono_l : ∀ k, (∀ y0 y1 y2 y3 y4 y5, LeO (spec_FlatStep.j0 k y0 y1 y2 y3 y4 y5) (spec_FlatStep.j0 (k + 1) y0 y1 y2 y3 y4 y5))
 | 0 => fun _ _ _ _ _ _ r h => by simp [spec_FlatStep.j0] at h
 | k + 1 => by
  have ih0 := spec_FlatStep.mono_l k
  ·intros
   unfold spec_FlatStep.j0
   have mo0 := @spec_HartOk.mono
   have mo1 := @spec_Work.mono
   have mo2 := @spec_l1Words.mono
   exact zL
theorem spec_FlatStep.mono : ∀ a0 a1 a2 a3 k, LeO (spec_FlatStep.f k a0 a1 a2 a3) (spec_FlatStep.f (k + 1) a0 a1 a2 a3) := by
 intro a0 a1 a2 a3 k
 have ih0 := spec_FlatStep.mono_l k
 unfold spec_FlatStep.f
 have mo0 := @spec_HartOk.mono
 have mo1 := @spec_Work.mono
 have mo2 := @spec_l1Words.mono
 exact zL
theorem spec_FlatStep.calls (k : Nat) (A0 : Option Addr) (c0 : Nat) (l0 : List Int) (A1_0 : Option Addr) (c1_0 : Nat) (l1_0 : List Int) (a1_1 : Int) (a1_2 : Int) (r1 : List Int) (r2 : List Int) (r3 : Int) (r4 : Int) (w : World) (hr0 : Kd.C (Kd.int .i64) w A0 l0.length l0) (hc0 : l0.length ≤ c0) (hr1_0 : Kd.C (Kd.int .i64) w A1_0 l1_0.length l1_0) (hc1_0 : l1_0.length ≤ c1_0) (h : spec_FlatStep.f k l0 l1_0 a1_1 a1_2 = some (r1, r2, r3, r4)) :
  Calls Try.prog 77 #[.slice A0 l0.length c0, .agg #[.slice A1_0 l1_0.length c1_0, .int .i64 a1_1, .int .i64 a1_2]] w fun e w' => ∃ v0_ v1_ : Value, e = .returned (.tuple #[v0_, .agg #[v1_, .int .i64 r3, .int .i64 r4]]) ∧ Kd.R (Kd.int .i64) 3 w' w.heap.size (fun k_ => some k_ ≠ (v1_ : Value).ownBlock) v0_ r1 ∧ Kd.R (Kd.int .i64) 3 w' w.heap.size (fun k_ => some k_ ≠ (v0_ : Value).ownBlock) v1_ r2 ∧ Below w.heap.size w w' := by
 have hu29 := Try.underlying29
 have hu59 := Try.underlying59
 have HR0 := zM hr0
 have HC0 := zM hc0
 clear hr0 hc0
 have HR1_0 := zM hr1_0
 have HC1_0 := zM hc1_0
 clear hr1_0 hc1_0
 have HB := zM (Below.refl w.heap.size w)
 unfold spec_FlatStep.f at h
 have H := h
 clear h
 obtain ⟨y354, hy354⟩ : ∃ y_ : List Int, y_ = (([] : List Int)) := ⟨_, rfl⟩
 replace H : (if y354.length + l0.length < 17592186044416 then ((some (y354 ++ l0 : List Int)).bind fun y357 => ((spec_l1Words.f k l0 24).bind fun t360 => (if t360 = true then ((spec_HartOk.f k l1_0 a1_1 a1_2).bind fun t361 => (if t361 = true then (spec_FlatStep.j0 k l0 y357 (a1_2 != 0) l1_0 a1_1 a1_2) else (spec_FlatStep.j0 k l0 y357 true l1_0 a1_1 a1_2))) else (spec_FlatStep.j0 k l0 y357 true l1_0 a1_1 a1_2)))) else (none)) = some (r1, r2, r3, r4) := by first | (rw [hy354]; with_reducible exact H) | (have H2_ := (Option.bind_some _ _).symm.trans H; rw [hy354]; with_reducible exact H2_) | (have H2_ := (Option.bind_some _ _).symm.trans H; with_reducible exact H2_) | with_reducible exact H | (rw [hy354]; exact H) | exact H
 have Ny354 := zM hy354
 clear hy354
 by_cases c3 : y354.length + l0.length < 17592186044416
 rotate_left
 ·rw [if_neg c3] at H
  exact absurd H (by simp)
 rw [if_pos c3] at H
 have LMc3 := zM c3
 clear c3
 obtain ⟨y357, hy357⟩ : ∃ y_ : List Int, y_ = (y354 ++ l0) := ⟨_, rfl⟩
 replace H : ((spec_l1Words.f k l0 24).bind fun t360 => (if t360 = true then ((spec_HartOk.f k l1_0 a1_1 a1_2).bind fun t361 => (if t361 = true then (spec_FlatStep.j0 k l0 y357 (a1_2 != 0) l1_0 a1_1 a1_2) else (spec_FlatStep.j0 k l0 y357 true l1_0 a1_1 a1_2))) else (spec_FlatStep.j0 k l0 y357 true l1_0 a1_1 a1_2))) = some (r1, r2, r3, r4) := by first | (rw [hy357]; with_reducible exact H) | (have H2_ := (Option.bind_some _ _).symm.trans H; rw [hy357]; with_reducible exact H2_) | (have H2_ := (Option.bind_some _ _).symm.trans H; with_reducible exact H2_) | with_reducible exact H | (rw [hy357]; exact H) | exact H
 have Ny357 := zM hy357
 clear hy357
 have HC4 := zM H
 clear H
 go_enter Try.func77, Try.ntmps77
 go_upto_region 2 with (first | ((with_reducible refine gate_dst (N := 3) rfl ?_); refine box_event ?hg (N := 3) ?hd (cs := #[.slice A1_0 l1_0.length c1_0, .int .i64 a1_1, .int .i64 a1_2]) (t := 29) ?hr ?_; (case hd => rfl); (case hg => rfl); (case hr => exact zHH); intro gb352 hg w5 hbox hb; have BK352 := zM hbox; have GW352 := zM (zW hg (below_size zB0)); have GE352 := zM (zW hg (below_size zB0)); replace HB := zM (below_step zB0 hb); clear hb hbox hg) | ((with_reducible refine gate_dst (N := 5) rfl ?_); refine box_event ?hg (N := 5) ?hd (cs := #[.slice none 0 0, .int .i64 0, .int .i64 0]) (t := 29) ?hr ?_; (case hd => rfl); (case hg => rfl); (case hr => exact zHH); intro gb353 hg w6 hbox hb; have BK353 := zM hbox; have GW353 := zM (zW hg (below_size zB45)); have GE353 := zM (zW hg (below_size zB45)); replace HB := zM (below_step zB45 hb); have NB352_353 := zM ((zn BK352.1 hg : gb352 ≠ gb353)); have NB353_352 := zM ((zm BK352.1 hg : gb353 ≠ gb352)); replace BK352 := zM (zb BK352.1 hb); clear hb hbox hg) | ((with_reducible refine gate_dst (N := 13) rfl ?_); refine Kd.R_lit (Kd.int .i64) _ 3 ?hg (N := 13) ?hd (xs := ([] : List Int)) (inner := []) (ok := fun _ => True) (okp := fun _ => True) ?hr ?hp (fun _ hk => hk) trivial (Below.refl _ _) (Nat.le_refl _) (by simp) ?_; (case hd => rfl); (case hg => rfl); (case hr => exact zHH); (case hp => exact (Reps.none _ _)); intro v355 w7 ho8 hb hg_ hnew_; clear hg_ hnew_; (first | rw [← Ny354.1] at ho8 | (simp only [Int.reduceToNat] at ho8; rw [← Ny354.1] at ho8)); have HO356 := zM (Kd.R_lower ho8 (below_size zB46)); replace BK352 := zM (zb BK352.1 hb); replace BK353 := zM (zb BK353.1 hb); replace HB := zM (below_step zB46 hb); clear hb ho8) | ((with_reducible refine gate_builtin (b := .append) (xs := #[.tmp 13, .tmp 14]) rfl ?_); at_builtin; refine Kd.R_append_rows (Kd.int .i64) (w0 := w) w.heap.size rfl (.tmp 13) (.tmp 14) 24 3 (.int .i64 0) 8 rfl Try.underlying24 info3 rfl (by decide) (by omega) v355 y354 l0 _ _ _ (fun _ => True) (fun _ => False) rfl rfl ?aO ?aR (fun _ _ h => h) (fun _ h => h.elim) ?aF ?aB ?aS ?aL ?_; (case aR => exact zC (Kd.C_below HR0.1 HB.1)); (case aB => exact zB46); (case aF => exact (fun _ _ => trivial)); (case aO => exact (zR HO356.1)); (case aS => exact (below_size zB46)); (case aL => have := LMc3.out; omega); intro v358 w9 ho hb hg hat; rw [← Ny357.1] at ho; replace BK352 := zM (zg BK352.1 hg (Kd.R_ne HO356.1 BK352.1 (by decide))); replace BK353 := zM (zg BK353.1 hg (Kd.R_ne HO356.1 BK353.1 (by decide))); replace HB := zM hb; have HO359 := zM ho; clear HO356; clear ho hb hg hat))
 (try simp only [Act.put, List.setIfInBounds_toArray, List.set_cons_zero, List.set_cons_succ])
 go_cut [28] (fun v28 wc => ∃ (kq : Nat) (x28_3 : Bool), v28 = .bool x28_3 ∧ Aside0 (spec_FlatStep.j0 kq l0 y357 x28_3 l1_0 a1_1 a1_2 = some (r1, r2, r3, r4)) ∧ Aside0 (kq ≤ k) ∧ Aside0 (Kd.R (Kd.int .i64) 3 wc w.heap.size (fun _ => True) v358 y357) ∧ Aside0 (wc.heap[gb352]? = some (.cells #[(.slice A1_0 l1_0.length c1_0), .int .i64 a1_1, .int .i64 a1_2] 29 (0, 0))) ∧ Aside0 (wc.heap[gb353]? = some (.cells #[(.slice none 0 0), .int .i64 0, .int .i64 0] 29 (0, 0))) ∧ Aside0 (Below w.heap.size w wc))
 case first =>
  have H := HC4.1
  clear HC4
  replace H := zO H
  obtain ⟨t360, A10, H⟩ := H
  by_cases c11 : t360 = true
  rotate_left
  ·replace c11 := Bool.eq_false_iff.mpr c11
   subst c11
   rw [if_neg zF] at H
   have H' := zM H
   clear H
   go_wp2_with (first | ((with_reducible refine gate_callee (f := 53) rfl ?_); refine goesL_ (some 17) rfl rfl Try.func53 (by kernel_rfl) rfl #[.slice A0 l0.length c0, .int .i64 24] rfl zT ?_; (with_reducible refine (spec_l1Words.calls k _ _ l0 24 false _ ?side1 ?side2 A10.1).mono ?_); (case side1 => exact zC (Kd.C_below HR0.1 HB.1)); (case side2 => exact HC0.1); rintro e w' ⟨rfl, ⟨nd, rfl⟩⟩; refine ⟨_, rfl, ?_⟩))
   go_meet
   case rel => exact ⟨_, (true), zJJ, H', ⟨by first | omega | exact Nat.le_refl _⟩, ⟨zR HO359.1⟩, ⟨zK BK352.1⟩, ⟨zK BK353.1⟩, ⟨zB46⟩⟩
  subst c11
  rw [if_pos rfl] at H
  replace H := zO H
  obtain ⟨t361, A12, H⟩ := H
  by_cases c13 : t361 = true
  rotate_left
  ·replace c13 := Bool.eq_false_iff.mpr c13
   subst c13
   rw [if_neg zF] at H
   have H' := zM H
   clear H
   go_wp2_with (first | ((with_reducible refine gate_callee (f := 53) rfl ?_); refine goesL_ (some 17) rfl rfl Try.func53 (by kernel_rfl) rfl #[.slice A0 l0.length c0, .int .i64 24] rfl zT ?_; (with_reducible refine (spec_l1Words.calls k _ _ l0 24 true _ ?side1 ?side2 A10.1).mono ?_); (case side1 => exact zC (Kd.C_below HR0.1 HB.1)); (case side2 => exact HC0.1); rintro e w' ⟨rfl, ⟨nd, rfl⟩⟩; refine ⟨_, rfl, ?_⟩; have hnb18 := NB352_353.1; have hnc18 := NB353_352.1; have hcz19 := zc_3 (w := w9) BK352.1) | (go_at_call 52; (with_reducible refine (spec_HartOk.calls k _ _ l1_0 a1_1 a1_2 false _ ?side1 ?side2 A12.1).mono ?_); (case side1 => repeat (first | exact (Kd.C_below HR1_0.1 zB46) | (with_reducible refine Kd.C_alloc ?_ _) | (with_reducible refine Kd.C_drewN ?_ _) | (with_reducible refine Kd.C_drew ?_))); (case side2 => exact HC1_0.1); rintro e w20 ⟨rfl, hb⟩; replace HO359 := zM (Kd.R_below (zR HO359.1) hb); replace BK352 := zM (zb BK352.1 hb); replace BK353 := zM (zb BK353.1 hb); replace HB := zM (below_step zB46 hb); clear hb))
   go_meet
   case rel => exact ⟨_, (true), zJJ, H', ⟨by first | omega | exact Nat.le_refl _⟩, ⟨zR HO359.1⟩, ⟨zK BK352.1⟩, ⟨zK BK353.1⟩, ⟨zB46⟩⟩
  subst c13
  rw [if_pos rfl] at H
  have H' := zM H
  clear H
  go_wp2_with (first | ((with_reducible refine gate_callee (f := 53) rfl ?_); refine goesL_ (some 17) rfl rfl Try.func53 (by kernel_rfl) rfl #[.slice A0 l0.length c0, .int .i64 24] rfl zT ?_; (with_reducible refine (spec_l1Words.calls k _ _ l0 24 true _ ?side1 ?side2 A10.1).mono ?_); (case side1 => exact zC (Kd.C_below HR0.1 HB.1)); (case side2 => exact HC0.1); rintro e w' ⟨rfl, ⟨nd, rfl⟩⟩; refine ⟨_, rfl, ?_⟩; have hnb14 := NB352_353.1; have hnc14 := NB353_352.1; have hcz15 := zc_3 (w := w9) BK352.1) | (go_at_call 52; (with_reducible refine (spec_HartOk.calls k _ _ l1_0 a1_1 a1_2 true _ ?side1 ?side2 A12.1).mono ?_); (case side1 => repeat (first | exact (Kd.C_below HR1_0.1 zB46) | (with_reducible refine Kd.C_alloc ?_ _) | (with_reducible refine Kd.C_drewN ?_ _) | (with_reducible refine Kd.C_drew ?_))); (case side2 => exact HC1_0.1); rintro e w16 ⟨rfl, hb⟩; replace HO359 := zM (Kd.R_below (zR HO359.1) hb); replace BK352 := zM (zb BK352.1 hb); replace BK353 := zM (zb BK353.1 hb); replace HB := zM (below_step zB46 hb); clear hb; have hcz17 := zc_3 (w := w16) BK352.1))
  go_meet
  case rel => exact ⟨_, ((a1_2 != 0)), zJJ, H', ⟨by first | omega | exact Nat.le_refl _⟩, ⟨zR HO359.1⟩, ⟨zK BK352.1⟩, ⟨zK BK353.1⟩, ⟨zB46⟩⟩
 case rest =>
  clear HC4
  try clear c1
  try clear p2
  try clear c3
  try clear c5
  try clear c7
  try clear c11
  try clear c13
  try clear c14
  try clear c18
  try clear hcz15
  try clear hcz17
  try clear hcz19
  obtain ⟨kq, x28_3, rfl, HA, HJ3, HO_6, BK352, BK353, HB⟩ := hcut
  cases kq with
  | zero => exact absurd HA.1 (by simp [spec_FlatStep.j0])
  | succ kj3 =>
   have H := HA.1
   clear HA
   simp only [spec_FlatStep.j0] at H
   by_cases c21 : x28_3 = true
   ·subst c21
    rw [if_pos rfl] at H
    replace H := zO H
    obtain ⟨⟨t362, t365, t366⟩, A22, H⟩ := H
    try dsimp only at H
    simp only [Option.some.injEq, Prod.mk.injEq] at H
    obtain ⟨rfl, rfl, rfl, rfl⟩ := H
    have hnb23 := NB352_353.1
    have hnc23 := NB353_352.1
    have hcz24 := zc_3 (w := wc) BK352.1
    go_wp2_with (first | ((with_reducible refine gate_callee (f := 104) rfl ?_); refine goesL_ (some 31) rfl rfl Try.func104 (by kernel_rfl) rfl #[.agg #[.slice A1_0 l1_0.length c1_0, .int .i64 a1_1, .int .i64 a1_2]] rfl zT ?_; (with_reducible refine (spec_l9Copy.calls _ _ l1_0 a1_1 a1_2 t362 t365 t366 _ ?side1 ?side2 A22.1).mono ?_); (case side1 => exact zC (Kd.C_below HR1_0.1 HB.1)); (case side2 => exact HC1_0.1); rintro e w25 ⟨v363, rfl, ho0, hb⟩; refine ⟨_, rfl, ?_⟩; have HO364 := zM (Kd.R_lower (Kd.R_new' ho0 (Kd.R_lt (zR HO_6.1))) (below_size zB46)); replace HO_6 := zM (Kd.R_elder' (zR HO_6.1) (Kd.R_base ho0) hb); replace BK352 := zM (zb BK352.1 hb); replace BK353 := zM (zb BK353.1 hb); replace HB := zM (below_step zB46 hb); clear hb ho0; obtain ⟨Ao26, co26, eo26⟩ := Kd.R_slice HO364.1; subst eo26; have hcz27 := zc_3 (w := w25) BK353.1))
    refine bodyPost_ret (results_tc rfl _ _ gb353 29 #[.slice Ao26 t362.length co26, .int .i64 t365, .int .i64 t366] (0, 0) _ rfl (by exact zp3 (zK BK353.1)) Try.underlying29 rfl (by kernel_rfl)) rfl ?_
    exact ⟨_, _, zE, by refine zrR ?_; exact Kd.R_mono (Kd.R_far (p := ⟨gb353, 2, none⟩) (Kd.R_far (p := ⟨gb353, 1, none⟩) (Kd.R_far (p := ⟨gb353, 0, none⟩) (Kd.R_types HO_6.1 BK353.1 (by decide)) (fun _ hk => hk.2) (.slice Ao26 t362.length co26)) (fun _ hk => hk.2) (.int .i64 t365)) (fun _ hk => hk.2) (.int .i64 t366)) (fun _ hk => hk.1.2), by refine zrR ?_; exact Kd.R_mono (Kd.R_far (p := ⟨gb353, 2, none⟩) (Kd.R_far (p := ⟨gb353, 1, none⟩) (Kd.R_far (p := ⟨gb353, 0, none⟩) (Kd.R_types HO364.1 BK353.1 (by decide)) (fun _ hk => hk.2) (.slice Ao26 t362.length co26)) (fun _ hk => hk.2) (.int .i64 t365)) (fun _ hk => hk.2) (.int .i64 t366)) (fun _ hk => hk.1.2), zB46⟩
   replace c21 := Bool.eq_false_iff.mpr c21
   subst c21
   rw [if_neg zF] at H
   by_cases c28 : 0 ≤ a1_1
   rotate_left
   ·rw [if_neg c28] at H
    exact absurd H (by simp)
   rw [if_pos c28] at H
   have c28b0 := decide_eq_true c28
   clear c28
   by_cases c29 : a1_1 < (l0.length : Int)
   rotate_left
   ·rw [if_neg c29] at H
    exact absurd H (by simp)
   rw [if_pos c29] at H
   have c29b0 := decide_eq_true c29
   clear c29
   replace H := zO H
   obtain ⟨⟨t368, t369, t370, t371, t372, t373⟩, A30, H⟩ := H
   try dsimp only at H
   replace H := zO H
   obtain ⟨t375, A31, H⟩ := H
   by_cases c32 : t375 ≥ 0
   rotate_left
   ·rw [if_neg c32] at H
    have c32b0 := decide_eq_false c32
    clear c32
    replace H := zO H
    obtain ⟨⟨t385, t388, t389, t390⟩, A87, H⟩ := H
    try dsimp only at H
    by_cases c88 : t390 ≥ 0
    rotate_left
    ·rw [if_neg c88] at H
     have c88b0 := decide_eq_false c88
     clear c88
     simp only [Option.some.injEq, Prod.mk.injEq] at H
     obtain ⟨rfl, rfl, rfl, rfl⟩ := H
     have hnb117 := NB352_353.1
     have hnc117 := NB353_352.1
     have hcz118 := zc_3 (w := wc) BK352.1
     have p367 : 0 ≤ (a1_1 : Int) := zA
     have q367 : a1_1 < (l0.length : Int) := zA
     obtain ⟨ad367, e367, hx367_0⟩ := Kd.at_int HR0.1 a1_1 p367 q367
     cases e367
     replace hx367_0 := (HB.1.cell (World.block_lt_of_cell? w _ hx367_0)).trans hx367_0
     replace p367 := eq_true p367
     replace q367 := eq_true q367
     try go_wp2_with (first | ((with_reducible refine gate_callee (f := 105) rfl ?_); refine goesL_ (some 38) rfl rfl Try.func105 (by kernel_rfl) rfl #[.int .i64 (rd l0 a1_1)] rfl zT ?_; (with_reducible refine (spec_Decode.calls (rd l0 a1_1) t368 t369 t370 t371 t372 t373 _ A30.1).mono ?_); rintro e w119 ⟨rfl, hb⟩; refine ⟨_, rfl, ?_⟩; replace HO_6 := zM (Kd.R_below (zR HO_6.1) hb); replace BK352 := zM (zb BK352.1 hb); replace BK353 := zM (zb BK353.1 hb); replace HB := zM (below_step zB46 hb); clear hb) | ((with_reducible refine gate_dst (N := 7) rfl ?_); refine box_event ?hg (N := 7) ?hd (cs := #[.int .i64 0, .int .i64 0, .int .i64 0, .int .i64 0, .int .i64 0]) (t := 59) ?hr ?_; (case hd => rfl); (case hg => rfl); (case hr => exact zHH); intro gb374 hg w120 hbox hb; replace HO_6 := zM (Kd.R_below (zR HO_6.1) hb); have BK374 := zM hbox; have GW374 := zM (zW hg (below_size zB46)); have GE374 := zM (zW hg (below_size zB46)); replace HB := zM (below_step zB46 hb); have NB352_374 := zM ((zn BK352.1 hg : gb352 ≠ gb374)); have NB374_352 := zM ((zm BK352.1 hg : gb374 ≠ gb352)); replace BK352 := zM (zb BK352.1 hb); have NB353_374 := zM ((zn BK353.1 hg : gb353 ≠ gb374)); have NB374_353 := zM ((zm BK353.1 hg : gb374 ≠ gb353)); replace BK353 := zM (zb BK353.1 hb); clear hb hbox hg; have hnb121 := NB374_352.1; have hnc121 := NB352_374.1; have hnb122 := NB374_353.1; have hnc122 := NB353_374.1; have hcz123 := zc_5 (w := w120) BK374.1; have hcz124 := zc_3 (w := w120) BK352.1) | ((with_reducible refine gate_callee (f := 106) rfl ?_); refine goesL_ (some 44) rfl rfl Try.func106 (by kernel_rfl) rfl #[.agg #[.int .i64 t368, .int .i64 t369, .int .i64 t370, .int .i64 t371, .int .i64 t372], .slice A1_0 l1_0.length c1_0] rfl zT ?_; (with_reducible refine (spec_Target.calls t368 t369 t370 t371 t372 _ _ l1_0 t375 _ ?side1 ?side2 A31.1).mono ?_); (case side1 => exact Kd.C_below HR1_0.1 zB47); (case side2 => exact HC1_0.1); rintro e w125 ⟨rfl, hb⟩; refine ⟨_, rfl, ?_⟩; replace HO_6 := zM (Kd.R_below (by refine zrR ?_; exact (Kd.R_mono (Kd.R_far (p := ⟨gb374, 4, none⟩) (Kd.R_far (p := ⟨gb374, 3, none⟩) (Kd.R_far (p := ⟨gb374, 2, none⟩) (Kd.R_far (p := ⟨gb374, 1, none⟩) (Kd.R_far (p := ⟨gb374, 0, none⟩) (Kd.R_types HO_6.1 BK374.1 (by decide)) (fun _ hk => hk.2) (.int .i64 t368)) (fun _ hk => hk.2) (.int .i64 t369)) (fun _ hk => hk.2) (.int .i64 t370)) (fun _ hk => hk.2) (.int .i64 t371)) (fun _ hk => hk.2) (.int .i64 t372)) (fun _ h_ => h_.1))) hb); replace BK352 := zM (zf BK352.1 hb); replace BK353 := zM (zf BK353.1 hb); replace BK374 := zM (blk_below (g := gb374) (o := .cells #[.int .i64 t368, .int .i64 t369, .int .i64 t370, .int .i64 t371, .int .i64 t372] 59 (0, 0)) (by exact zp5 (zK BK374.1)) hb); replace HB := zM (below_step zB47 hb); clear hb; have hcz126 := zc_3 (w := w125) BK352.1; have hcz127 := zc_5 (w := w125) BK374.1) | ((with_reducible refine gate_callee (f := 107) rfl ?_); refine goesL_ (some 55) rfl rfl Try.func107 (by kernel_rfl) rfl #[.agg #[.slice A1_0 l1_0.length c1_0, .int .i64 a1_1, .int .i64 a1_2], .agg #[.int .i64 t368, .int .i64 t369, .int .i64 t370, .int .i64 t371, .int .i64 t372], .int .i64 0] rfl zT ?_; (with_reducible refine (spec_Work.calls kj3 _ _ l1_0 a1_1 a1_2 t368 t369 t370 t371 t372 0 t385 t388 t389 t390 _ ?side1 ?side2 A87.1).mono ?_); (case side1 => exact zC (Kd.C_below HR1_0.1 HB.1)); (case side2 => exact HC1_0.1); rintro e w128 ⟨v386, rfl, ho0, hb⟩; refine ⟨_, rfl, ?_⟩; have HO387 := zM (Kd.R_lower (Kd.R_new' ho0 (Kd.R_lt (zR HO_6.1))) (below_size zB47)); replace HO_6 := zM (Kd.R_elder' (zR HO_6.1) (Kd.R_base ho0) hb); replace BK352 := zM (zb BK352.1 hb); replace BK353 := zM (zb BK353.1 hb); replace BK374 := zM (zb BK374.1 hb); replace HB := zM (below_step zB47 hb); clear hb ho0) | ((with_reducible refine gate_dst (N := 11) rfl ?_); refine box_event ?hg (N := 11) ?hd (cs := #[.slice none 0 0, .int .i64 0, .int .i64 0]) (t := 29) ?hr ?_; (case hd => rfl); (case hg => rfl); (case hr => exact zHH); intro gb391 hg w129 hbox hb; replace HO_6 := zM (Kd.R_below (zR HO_6.1) hb); replace HO387 := zM (Kd.R_below (zR HO387.1) hb); have BK391 := zM hbox; have GW391 := zM (zW hg (below_size zB47)); have GE391 := zM (zW hg (below_size zB47)); replace HB := zM (below_step zB47 hb); have NB352_391 := zM ((zn BK352.1 hg : gb352 ≠ gb391)); have NB391_352 := zM ((zm BK352.1 hg : gb391 ≠ gb352)); replace BK352 := zM (zb BK352.1 hb); have NB353_391 := zM ((zn BK353.1 hg : gb353 ≠ gb391)); have NB391_353 := zM ((zm BK353.1 hg : gb391 ≠ gb353)); replace BK353 := zM (zb BK353.1 hb); have NB374_391 := zM ((zn BK374.1 hg : gb374 ≠ gb391)); have NB391_374 := zM ((zm BK374.1 hg : gb391 ≠ gb374)); replace BK374 := zM (zb BK374.1 hb); clear hb hbox hg; obtain ⟨Ao130, co130, eo130⟩ := Kd.R_slice HO387.1; subst eo130; have hnb131 := NB391_352.1; have hnc131 := NB352_391.1; have hnb132 := NB391_353.1; have hnc132 := NB353_391.1; have hnb133 := NB391_374.1; have hnc133 := NB374_391.1; have hcz134 := zc_3 (w := w129) BK391.1))
     have n0_ : Aside0 (Kd.R (Kd.int .i64) 3 (((w129.setCell ⟨gb391, 0, none⟩ (.slice Ao130 t385.length co130)).setCell ⟨gb391, 1, none⟩ (.int .i64 t388)).setCell ⟨gb391, 2, none⟩ (.int .i64 t389)) w.heap.size (fun k_ => some k_ ≠ (.slice Ao130 t385.length co130 : Value).ownBlock) v358 y357) := ⟨by refine zrR ?_; exact Kd.R_mono (Kd.R_far (p := ⟨gb391, 2, none⟩) (Kd.R_far (p := ⟨gb391, 1, none⟩) (Kd.R_far (p := ⟨gb391, 0, none⟩) (Kd.R_types HO_6.1 BK391.1 (by decide)) (fun _ hk => hk.2) (.slice Ao130 t385.length co130)) (fun _ hk => hk.2) (.int .i64 t388)) (fun _ hk => hk.2) (.int .i64 t389)) (fun _ hk => hk.1.2)⟩
     have n1_ : Aside0 (Kd.R (Kd.int .i64) 3 (((w129.setCell ⟨gb391, 0, none⟩ (.slice Ao130 t385.length co130)).setCell ⟨gb391, 1, none⟩ (.int .i64 t388)).setCell ⟨gb391, 2, none⟩ (.int .i64 t389)) w.heap.size (fun k_ => some k_ ≠ (v358 : Value).ownBlock) (.slice Ao130 t385.length co130) t385) := ⟨by refine zrR ?_; exact Kd.R_mono (Kd.R_far (p := ⟨gb391, 2, none⟩) (Kd.R_far (p := ⟨gb391, 1, none⟩) (Kd.R_far (p := ⟨gb391, 0, none⟩) (Kd.R_types HO387.1 BK391.1 (by decide)) (fun _ hk => hk.2) (.slice Ao130 t385.length co130)) (fun _ hk => hk.2) (.int .i64 t388)) (fun _ hk => hk.2) (.int .i64 t389)) (fun _ hk => hk.1.2)⟩
     have n2_ : Aside0 ((((w129.setCell ⟨gb391, 0, none⟩ (.slice Ao130 t385.length co130)).setCell ⟨gb391, 1, none⟩ (.int .i64 t388)).setCell ⟨gb391, 2, none⟩ (.int .i64 t389)).heap[gb352]? = some (.cells #[.slice A1_0 l1_0.length c1_0, .int .i64 a1_1, .int .i64 a1_2] 29 (0, 0))) := ⟨by refine zP ?_; refine blk_far ?_ NB352_391.1 _; refine zP ?_; refine blk_far ?_ NB352_391.1 _; refine zP ?_; refine blk_far ?_ NB352_391.1 _; refine zP ?_; exact BK352.1⟩
     have n3_ : Aside0 ((((w129.setCell ⟨gb391, 0, none⟩ (.slice Ao130 t385.length co130)).setCell ⟨gb391, 1, none⟩ (.int .i64 t388)).setCell ⟨gb391, 2, none⟩ (.int .i64 t389)).heap[gb353]? = some (.cells #[.slice none 0 0, .int .i64 0, .int .i64 0] 29 (0, 0))) := ⟨by refine zP ?_; refine blk_far ?_ NB353_391.1 _; refine zP ?_; refine blk_far ?_ NB353_391.1 _; refine zP ?_; refine blk_far ?_ NB353_391.1 _; refine zP ?_; exact BK353.1⟩
     have n4_ : Aside0 ((((w129.setCell ⟨gb391, 0, none⟩ (.slice Ao130 t385.length co130)).setCell ⟨gb391, 1, none⟩ (.int .i64 t388)).setCell ⟨gb391, 2, none⟩ (.int .i64 t389)).heap[gb374]? = some (.cells #[.int .i64 t368, .int .i64 t369, .int .i64 t370, .int .i64 t371, .int .i64 t372] 59 (0, 0))) := ⟨by refine zP ?_; refine blk_far ?_ NB374_391.1 _; refine zP ?_; refine blk_far ?_ NB374_391.1 _; refine zP ?_; refine blk_far ?_ NB374_391.1 _; refine zP ?_; exact BK374.1⟩
     have n5_ : Aside0 ((((w129.setCell ⟨gb391, 0, none⟩ (.slice Ao130 t385.length co130)).setCell ⟨gb391, 1, none⟩ (.int .i64 t388)).setCell ⟨gb391, 2, none⟩ (.int .i64 t389)).heap[gb391]? = some (.cells #[.slice Ao130 t385.length co130, .int .i64 t388, .int .i64 t389] 29 (0, 0))) := ⟨by exact zp3 (zK BK391.1)⟩
     have n6_ : Aside0 (Below w.heap.size w (((w129.setCell ⟨gb391, 0, none⟩ (.slice Ao130 t385.length co130)).setCell ⟨gb391, 1, none⟩ (.int .i64 t388)).setCell ⟨gb391, 2, none⟩ (.int .i64 t389))) := ⟨zB49⟩
     (try clear HO_6)
     (try clear HO387)
     (try clear BK352)
     (try clear BK353)
     (try clear BK374)
     (try clear BK391)
     (try clear HB)
     generalize (((w129.setCell ⟨gb391, 0, none⟩ (.slice Ao130 t385.length co130)).setCell ⟨gb391, 1, none⟩ (.int .i64 t388)).setCell ⟨gb391, 2, none⟩ (.int .i64 t389)) = w135 at n0_ n1_ n2_ n3_ n4_ n5_ n6_ ⊢
     have HO_6 := n0_
     have HO387 := n1_
     have BK352 := n2_
     have BK353 := n3_
     have BK374 := n4_
     have BK391 := n5_
     have HB := n6_
     clear n0_ n1_ n2_ n3_ n4_ n5_ n6_
     replace HO_6 := zM (Kd.R_drew HO_6.1)
     replace HO387 := zM (Kd.R_drew HO387.1)
     replace BK352 := zM (blk_drew BK352.1)
     replace BK353 := zM (blk_drew BK353.1)
     replace BK374 := zM (blk_drew BK374.1)
     replace BK391 := zM (blk_drew BK391.1)
     replace HB := zM (below_drew1 HB.1)
     refine start_ (n := 4) (S := fun w' => w'.cell? ⟨gb391, 0, none⟩ = some (.slice Ao130 t385.length co130) ∧ w'.cell? ⟨gb391, 1, none⟩ = some (.int .i64 t388) ∧ w'.cell? ⟨gb391, 2, none⟩ = some (.int .i64 t389)) (ds := []) #[false, false, false, false] (by kernel_rfl) rfl rfl ⟨(blk_cell BK391.1 0).trans rfl, (blk_cell BK391.1 1).trans rfl, (blk_cell BK391.1 2).trans rfl⟩ (fun hHeld => ?_)
     generalize w135.drew = w136 at HO_6 HO387 BK352 BK353 BK374 BK391 HB hHeld ⊢
     refine pure_ (i := 0) (N := some 64) (v := ?_) (a' := ?_) #[true, false, false, false] rfl rfl (by kernel_rfl) (fun _ _ _ h => h) (Or.inl ⟨by rfl, ?_⟩) ?_ ?_
     rotate_left
     ·intro w'
      go_simp
      with_reducible rfl
     rotate_left
     ·exact zV
     refine pure_ (i := 2) (N := some 4) (v := ?_) (a' := ?_) #[true, false, true, false] rfl rfl (by kernel_rfl) (fun _ _ _ h => h) (Or.inl ⟨by rfl, ?_⟩) ?_ ?_
     rotate_left
     ·intro w'
      go_simp
      with_reducible rfl
     rotate_left
     ·exact zV
     refine take_ (i := 1) (N := some 65) (v := ?_) (a' := ?_) #[true, true, true, false] rfl rfl (by kernel_rfl) (fun _ _ _ h => h) (Or.inl ⟨by rfl, ?_⟩) hHeld ?_ ?_
     rotate_left
     ·rintro w' ⟨s0, s1, s2⟩
      go_simp
      with_reducible rfl
     rotate_left
     ·exact zV
     refine one_ (i := 3) (N := none) #[true, true, true, true] rfl rfl (by kernel_rfl) (by decide) (fun K hK => ?_)
     have hs137 : w136.cell? ⟨gb353, 0, none⟩ = some (.slice none 0 0) := (blk_cell BK353.1 0).trans rfl
     have hfs137 := blk_frozen BK353.1 0
     have hns137_0 := NB352_353.1
     have hns137_2 := NB374_353.1
     have hns137_3 := NB391_353.1
     have hms137_0 := NB353_352.1
     have hms137_2 := NB353_374.1
     have hms137_3 := NB353_391.1
     have hs138 : w136.cell? ⟨gb353, 1, none⟩ = some (.int .i64 0) := (blk_cell BK353.1 1).trans rfl
     have hfs138 := blk_frozen BK353.1 1
     have hns138_0 := NB352_353.1
     have hns138_2 := NB374_353.1
     have hns138_3 := NB391_353.1
     have hms138_0 := NB353_352.1
     have hms138_2 := NB353_374.1
     have hms138_3 := NB353_391.1
     have hs139 : w136.cell? ⟨gb353, 2, none⟩ = some (.int .i64 0) := (blk_cell BK353.1 2).trans rfl
     have hfs139 := blk_frozen BK353.1 2
     have hns139_0 := NB352_353.1
     have hns139_2 := NB374_353.1
     have hns139_3 := NB391_353.1
     have hms139_0 := NB353_352.1
     have hms139_2 := NB353_374.1
     have hms139_3 := NB353_391.1
     refine skip_ (w1 := ?_) (by rfl) rfl ?_ ?_
     rotate_left
     ·go_simp
      rfl
     refine hK.out _ _ ⟨((cell_far (p := ⟨gb353, _, none⟩) NB391_353.1 _).trans (((cell_far (p := ⟨gb353, _, none⟩) NB391_353.1 _).trans (((cell_far (p := ⟨gb353, _, none⟩) NB391_353.1 _).trans (hHeld.1)))))), ((cell_far (p := ⟨gb353, _, none⟩) NB391_353.1 _).trans (((cell_far (p := ⟨gb353, _, none⟩) NB391_353.1 _).trans (((cell_far (p := ⟨gb353, _, none⟩) NB391_353.1 _).trans (hHeld.2.1)))))), ((cell_far (p := ⟨gb353, _, none⟩) NB391_353.1 _).trans (((cell_far (p := ⟨gb353, _, none⟩) NB391_353.1 _).trans (((cell_far (p := ⟨gb353, _, none⟩) NB391_353.1 _).trans (hHeld.2.2))))))⟩ (fun hHeld => ?_)
     clear hK K
     refine done_ (by kernel_rfl) ?_
     try go_wp2
     refine bodyPost_ret (results_tc rfl _ _ gb353 29 #[.slice Ao130 t385.length co130, .int .i64 t388, .int .i64 t389] (0, 0) _ rfl (by exact zp3 (zK BK353.1)) Try.underlying29 rfl (by kernel_rfl)) rfl ?_
     exact ⟨_, _, zE, by refine zrR ?_; exact Kd.R_mono (Kd.R_far (p := ⟨gb353, 2, none⟩) (Kd.R_far (p := ⟨gb353, 1, none⟩) (Kd.R_far (p := ⟨gb353, 0, none⟩) (Kd.R_types HO_6.1 BK353.1 (by decide)) (fun _ hk => hk.2) (.slice Ao130 t385.length co130)) (fun _ hk => hk.2) (.int .i64 t388)) (fun _ hk => hk.2) (.int .i64 t389)) (fun _ hk => hk.1), by refine zrR ?_; exact Kd.R_mono (Kd.R_far (p := ⟨gb353, 2, none⟩) (Kd.R_far (p := ⟨gb353, 1, none⟩) (Kd.R_far (p := ⟨gb353, 0, none⟩) (Kd.R_types HO387.1 BK353.1 (by decide)) (fun _ hk => hk.2) (.slice Ao130 t385.length co130)) (fun _ hk => hk.2) (.int .i64 t388)) (fun _ hk => hk.2) (.int .i64 t389)) (fun _ hk => hk.1), zB49⟩
    rw [if_pos c88] at H
    have c88b0 := decide_eq_true c88
    clear c88
    by_cases c89 : 0 ≤ t375
    rotate_left
    ·rw [if_neg c89] at H
     exact absurd H (by simp)
    rw [if_pos c89] at H
    have c89b0 := decide_eq_true c89
    clear c89
    by_cases c90 : t375 < (y357.length : Int)
    rotate_left
    ·rw [if_neg c90] at H
     exact absurd H (by simp)
    rw [if_pos c90] at H
    have c90b0 := decide_eq_true c90
    clear c90
    obtain ⟨y392, hy392⟩ : ∃ y_ : List Int, y_ = (y357.set (t375 : Int).toNat t390) := ⟨_, rfl⟩
    replace H : (some (y392, t385, t388, t389)) = some (r1, r2, r3, r4) := by first | (rw [hy392]; with_reducible exact H) | (have H2_ := (Option.bind_some _ _).symm.trans H; rw [hy392]; with_reducible exact H2_) | (have H2_ := (Option.bind_some _ _).symm.trans H; with_reducible exact H2_) | with_reducible exact H | (rw [hy392]; exact H) | exact H
    have Ny392 := zM hy392
    clear hy392
    simp only [Option.some.injEq, Prod.mk.injEq] at H
    obtain ⟨rfl, rfl, rfl, rfl⟩ := H
    have hnb92 := NB352_353.1
    have hnc92 := NB353_352.1
    have hcz93 := zc_3 (w := wc) BK352.1
    have p367 : 0 ≤ (a1_1 : Int) := zA
    have q367 : a1_1 < (l0.length : Int) := zA
    obtain ⟨ad367, e367, hx367_0⟩ := Kd.at_int HR0.1 a1_1 p367 q367
    cases e367
    replace hx367_0 := (HB.1.cell (World.block_lt_of_cell? w _ hx367_0)).trans hx367_0
    replace p367 := eq_true p367
    replace q367 := eq_true q367
    try go_wp2_with (first | ((with_reducible refine gate_callee (f := 105) rfl ?_); refine goesL_ (some 38) rfl rfl Try.func105 (by kernel_rfl) rfl #[.int .i64 (rd l0 a1_1)] rfl zT ?_; (with_reducible refine (spec_Decode.calls (rd l0 a1_1) t368 t369 t370 t371 t372 t373 _ A30.1).mono ?_); rintro e w94 ⟨rfl, hb⟩; refine ⟨_, rfl, ?_⟩; replace HO_6 := zM (Kd.R_below (zR HO_6.1) hb); replace BK352 := zM (zb BK352.1 hb); replace BK353 := zM (zb BK353.1 hb); replace HB := zM (below_step zB46 hb); clear hb) | ((with_reducible refine gate_dst (N := 7) rfl ?_); refine box_event ?hg (N := 7) ?hd (cs := #[.int .i64 0, .int .i64 0, .int .i64 0, .int .i64 0, .int .i64 0]) (t := 59) ?hr ?_; (case hd => rfl); (case hg => rfl); (case hr => exact zHH); intro gb374 hg w95 hbox hb; replace HO_6 := zM (Kd.R_below (zR HO_6.1) hb); have BK374 := zM hbox; have GW374 := zM (zW hg (below_size zB46)); have GE374 := zM (zW hg (below_size zB46)); replace HB := zM (below_step zB46 hb); have NB352_374 := zM ((zn BK352.1 hg : gb352 ≠ gb374)); have NB374_352 := zM ((zm BK352.1 hg : gb374 ≠ gb352)); replace BK352 := zM (zb BK352.1 hb); have NB353_374 := zM ((zn BK353.1 hg : gb353 ≠ gb374)); have NB374_353 := zM ((zm BK353.1 hg : gb374 ≠ gb353)); replace BK353 := zM (zb BK353.1 hb); clear hb hbox hg; have hnb96 := NB374_352.1; have hnc96 := NB352_374.1; have hnb97 := NB374_353.1; have hnc97 := NB353_374.1; have hcz98 := zc_5 (w := w95) BK374.1; have hcz99 := zc_3 (w := w95) BK352.1) | ((with_reducible refine gate_callee (f := 106) rfl ?_); refine goesL_ (some 44) rfl rfl Try.func106 (by kernel_rfl) rfl #[.agg #[.int .i64 t368, .int .i64 t369, .int .i64 t370, .int .i64 t371, .int .i64 t372], .slice A1_0 l1_0.length c1_0] rfl zT ?_; (with_reducible refine (spec_Target.calls t368 t369 t370 t371 t372 _ _ l1_0 t375 _ ?side1 ?side2 A31.1).mono ?_); (case side1 => exact Kd.C_below HR1_0.1 zB47); (case side2 => exact HC1_0.1); rintro e w100 ⟨rfl, hb⟩; refine ⟨_, rfl, ?_⟩; replace HO_6 := zM (Kd.R_below (by refine zrR ?_; exact (Kd.R_mono (Kd.R_far (p := ⟨gb374, 4, none⟩) (Kd.R_far (p := ⟨gb374, 3, none⟩) (Kd.R_far (p := ⟨gb374, 2, none⟩) (Kd.R_far (p := ⟨gb374, 1, none⟩) (Kd.R_far (p := ⟨gb374, 0, none⟩) (Kd.R_types HO_6.1 BK374.1 (by decide)) (fun _ hk => hk.2) (.int .i64 t368)) (fun _ hk => hk.2) (.int .i64 t369)) (fun _ hk => hk.2) (.int .i64 t370)) (fun _ hk => hk.2) (.int .i64 t371)) (fun _ hk => hk.2) (.int .i64 t372)) (fun _ h_ => h_.1))) hb); replace BK352 := zM (zf BK352.1 hb); replace BK353 := zM (zf BK353.1 hb); replace BK374 := zM (blk_below (g := gb374) (o := .cells #[.int .i64 t368, .int .i64 t369, .int .i64 t370, .int .i64 t371, .int .i64 t372] 59 (0, 0)) (by exact zp5 (zK BK374.1)) hb); replace HB := zM (below_step zB47 hb); clear hb; have hcz101 := zc_3 (w := w100) BK352.1; have hcz102 := zc_5 (w := w100) BK374.1) | ((with_reducible refine gate_callee (f := 107) rfl ?_); refine goesL_ (some 55) rfl rfl Try.func107 (by kernel_rfl) rfl #[.agg #[.slice A1_0 l1_0.length c1_0, .int .i64 a1_1, .int .i64 a1_2], .agg #[.int .i64 t368, .int .i64 t369, .int .i64 t370, .int .i64 t371, .int .i64 t372], .int .i64 0] rfl zT ?_; (with_reducible refine (spec_Work.calls kj3 _ _ l1_0 a1_1 a1_2 t368 t369 t370 t371 t372 0 t385 t388 t389 t390 _ ?side1 ?side2 A87.1).mono ?_); (case side1 => exact zC (Kd.C_below HR1_0.1 HB.1)); (case side2 => exact HC1_0.1); rintro e w103 ⟨v386, rfl, ho0, hb⟩; refine ⟨_, rfl, ?_⟩; have HO387 := zM (Kd.R_lower (Kd.R_new' ho0 (Kd.R_lt (zR HO_6.1))) (below_size zB47)); replace HO_6 := zM (Kd.R_elder' (zR HO_6.1) (Kd.R_base ho0) hb); replace BK352 := zM (zb BK352.1 hb); replace BK353 := zM (zb BK353.1 hb); replace BK374 := zM (zb BK374.1 hb); replace HB := zM (below_step zB47 hb); clear hb ho0) | ((with_reducible refine gate_dst (N := 11) rfl ?_); refine box_event ?hg (N := 11) ?hd (cs := #[.slice none 0 0, .int .i64 0, .int .i64 0]) (t := 29) ?hr ?_; (case hd => rfl); (case hg => rfl); (case hr => exact zHH); intro gb391 hg w104 hbox hb; replace HO_6 := zM (Kd.R_below (zR HO_6.1) hb); replace HO387 := zM (Kd.R_below (zR HO387.1) hb); have BK391 := zM hbox; have GW391 := zM (zW hg (below_size zB47)); have GE391 := zM (zW hg (below_size zB47)); replace HB := zM (below_step zB47 hb); have NB352_391 := zM ((zn BK352.1 hg : gb352 ≠ gb391)); have NB391_352 := zM ((zm BK352.1 hg : gb391 ≠ gb352)); replace BK352 := zM (zb BK352.1 hb); have NB353_391 := zM ((zn BK353.1 hg : gb353 ≠ gb391)); have NB391_353 := zM ((zm BK353.1 hg : gb391 ≠ gb353)); replace BK353 := zM (zb BK353.1 hb); have NB374_391 := zM ((zn BK374.1 hg : gb374 ≠ gb391)); have NB391_374 := zM ((zm BK374.1 hg : gb391 ≠ gb374)); replace BK374 := zM (zb BK374.1 hb); clear hb hbox hg; obtain ⟨Ao105, co105, eo105⟩ := Kd.R_slice HO387.1; subst eo105; have hnb106 := NB391_352.1; have hnc106 := NB352_391.1; have hnb107 := NB391_353.1; have hnc107 := NB353_391.1; have hnb108 := NB391_374.1; have hnc108 := NB374_391.1; have hcz109 := zc_3 (w := w104) BK391.1) | ((with_reducible refine gate_store (t := 29) (p := 11) rfl ?_); refine store_event (t := 29) (p := 11) (v := ?vo_w110) (w1 := (((w104.setCell ⟨gb391, 0, none⟩ (.slice Ao105 t385.length co105)).setCell ⟨gb391, 1, none⟩ (.int .i64 t388)).setCell ⟨gb391, 2, none⟩ (.int .i64 t389))) ?hg ?ho ?hn ?hr ?_; (case ho => rfl); (case hg => rfl); (case hn => rfl); (case hr => exact zHH); intro w110 hw; have n0_ : Aside0 (Kd.R (Kd.int .i64) 3 w110 w.heap.size (fun k_ => some k_ ≠ (.slice Ao105 t385.length co105 : Value).ownBlock) v358 y357) := ⟨(by rw [hw]; exact (by refine zrR ?_; exact Kd.R_mono (Kd.R_far (p := ⟨gb391, 2, none⟩) (Kd.R_far (p := ⟨gb391, 1, none⟩) (Kd.R_far (p := ⟨gb391, 0, none⟩) (Kd.R_types HO_6.1 BK391.1 (by decide)) (fun _ hk => hk.2) (.slice Ao105 t385.length co105)) (fun _ hk => hk.2) (.int .i64 t388)) (fun _ hk => hk.2) (.int .i64 t389)) (fun _ hk => hk.1.2)))⟩; have n1_ : Aside0 (Kd.R (Kd.int .i64) 3 w110 w.heap.size (fun k_ => some k_ ≠ (v358 : Value).ownBlock) (.slice Ao105 t385.length co105) t385) := ⟨(by rw [hw]; exact (by refine zrR ?_; exact Kd.R_mono (Kd.R_far (p := ⟨gb391, 2, none⟩) (Kd.R_far (p := ⟨gb391, 1, none⟩) (Kd.R_far (p := ⟨gb391, 0, none⟩) (Kd.R_types HO387.1 BK391.1 (by decide)) (fun _ hk => hk.2) (.slice Ao105 t385.length co105)) (fun _ hk => hk.2) (.int .i64 t388)) (fun _ hk => hk.2) (.int .i64 t389)) (fun _ hk => hk.1.2)))⟩; have n2_ : Aside0 (w110.heap[gb352]? = some (.cells #[.slice A1_0 l1_0.length c1_0, .int .i64 a1_1, .int .i64 a1_2] 29 (0, 0))) := ⟨(by rw [hw]; exact (by refine zP ?_; refine blk_far ?_ NB352_391.1 _; refine zP ?_; refine blk_far ?_ NB352_391.1 _; refine zP ?_; refine blk_far ?_ NB352_391.1 _; refine zP ?_; exact BK352.1))⟩; have n3_ : Aside0 (w110.heap[gb353]? = some (.cells #[.slice none 0 0, .int .i64 0, .int .i64 0] 29 (0, 0))) := ⟨(by rw [hw]; exact (by refine zP ?_; refine blk_far ?_ NB353_391.1 _; refine zP ?_; refine blk_far ?_ NB353_391.1 _; refine zP ?_; refine blk_far ?_ NB353_391.1 _; refine zP ?_; exact BK353.1))⟩; have n4_ : Aside0 (w110.heap[gb374]? = some (.cells #[.int .i64 t368, .int .i64 t369, .int .i64 t370, .int .i64 t371, .int .i64 t372] 59 (0, 0))) := ⟨(by rw [hw]; exact (by refine zP ?_; refine blk_far ?_ NB374_391.1 _; refine zP ?_; refine blk_far ?_ NB374_391.1 _; refine zP ?_; refine blk_far ?_ NB374_391.1 _; refine zP ?_; exact BK374.1))⟩; have n5_ : Aside0 (w110.heap[gb391]? = some (.cells #[.slice Ao105 t385.length co105, .int .i64 t388, .int .i64 t389] 29 (0, 0))) := ⟨(by rw [hw]; exact (by exact zp3 (zK BK391.1)))⟩; have n6_ : Aside0 (Below w.heap.size w w110) := ⟨(by rw [hw]; exact zB49)⟩; clear hw; clear HO_6; clear HO387; clear BK352; clear BK353; clear BK374; clear BK391; clear HB; have HO_6 := n0_; have HO387 := n1_; have BK352 := n2_; have BK353 := n3_; have BK374 := n4_; have BK391 := n5_; have HB := n6_; clear n0_ n1_ n2_ n3_ n4_ n5_ n6_; have p91 : 0 ≤ (t375 : Int) := zA; have q91 : (t375 : Int) < ((y357.length : Int) : Int) := zA; obtain ⟨go91, co91, eo91, gb91, gl91, cl91, HG91⟩ := Kd.R_form HO_6.1 (by omega); (first | cases eo91 | (injection eo91 with ea_ en_ ec_; (first | subst ea_ | (injection ea_ with ea_; subst ea_)); subst ec_; clear en_)); have GB91 := zM gb91; have GG91 := zM HG91; clear gb91 gl91 HG91; obtain ⟨hx91_0, hf91_0⟩ := Kd.R_celln 0 HO_6.1 (t375 : Int) p91 q91; replace p91 := eq_true p91; replace q91 := eq_true q91; obtain ⟨hy111_, hz111_⟩ := Kd.R_celln 0 HO_6.1 (t375 : Int) zA zA; have HP111 := Kd.R_putg HO_6.1 (t375 : Int) t390) | ((with_reducible refine gate_store (t := 3) (p := 63) rfl ?_); refine store_event (t := 3) (p := 63) (v := ?vo_w112) (w1 := (w110.setCell ⟨go91, (t375 : Int).toNat, none⟩ (.int .i64 t390))) ?hg ?ho ?hn ?hr ?_; (case ho => rfl); (case hg => rfl); (case hn => rfl); (case hr => exact zHH); intro w112 hw; have hg : w110.grownBy w112 (some go91) := (by rw [hw]; exact HP111.2); have hp_ : Kd.R (Kd.int .i64) 3 w112 w.heap.size (fun k_ => some k_ ≠ (.slice Ao105 t385.length co105 : Value).ownBlock) (.slice (some ⟨go91, 0, none⟩) y357.length co91) y392 := (by rw [hw, Ny392.1]; exact HP111.1); clear HP111; replace BK352 := zM (zg BK352.1 hg (Kd.R_ne HO_6.1 BK352.1 (by decide))); replace BK353 := zM (zg BK353.1 hg (Kd.R_ne HO_6.1 BK353.1 (by decide))); replace BK374 := zM (zg BK374.1 hg (Kd.R_ne HO_6.1 BK374.1 (by decide))); replace HO387 := zM (Kd.R_after (v := (.slice (some ⟨go91, 0, none⟩) y357.length co91)) (v1 := (.slice (some ⟨go91, 0, none⟩) y357.length co91)) (ok := (fun _ => True)) (by refine zrR ?_; exact Kd.R_mono HO387.1 (fun _ hk => ⟨trivial, hk⟩)) hg (.inl rfl)); replace BK391 := zM (zg BK391.1 hg (Kd.R_ne HO_6.1 BK391.1 (by decide))); replace HO_6 := zM hp_; replace HB := zM ((by rw [hw]; exact below_set (HB.1) GB91.1 : Below w.heap.size w w112)); clear hg hw hp_))
    replace HO_6 := zM (Kd.R_drew HO_6.1)
    replace HO387 := zM (Kd.R_drew HO387.1)
    replace BK352 := zM (blk_drew BK352.1)
    replace BK353 := zM (blk_drew BK353.1)
    replace BK374 := zM (blk_drew BK374.1)
    replace BK391 := zM (blk_drew BK391.1)
    replace HB := zM (below_drew1 HB.1)
    refine start_ (n := 4) (S := fun w' => w'.cell? ⟨gb391, 0, none⟩ = some (.slice Ao105 t385.length co105) ∧ w'.cell? ⟨gb391, 1, none⟩ = some (.int .i64 t388) ∧ w'.cell? ⟨gb391, 2, none⟩ = some (.int .i64 t389)) (ds := []) #[false, false, false, false] (by kernel_rfl) rfl rfl ⟨(blk_cell BK391.1 0).trans rfl, (blk_cell BK391.1 1).trans rfl, (blk_cell BK391.1 2).trans rfl⟩ (fun hHeld => ?_)
    generalize w112.drew = w113 at HO_6 HO387 BK352 BK353 BK374 BK391 HB hHeld ⊢
    refine pure_ (i := 0) (N := some 64) (v := ?_) (a' := ?_) #[true, false, false, false] rfl rfl (by kernel_rfl) (fun _ _ _ h => h) (Or.inl ⟨by rfl, ?_⟩) ?_ ?_
    rotate_left
    ·intro w'
     go_simp
     with_reducible rfl
    rotate_left
    ·exact zV
    refine pure_ (i := 2) (N := some 4) (v := ?_) (a' := ?_) #[true, false, true, false] rfl rfl (by kernel_rfl) (fun _ _ _ h => h) (Or.inl ⟨by rfl, ?_⟩) ?_ ?_
    rotate_left
    ·intro w'
     go_simp
     with_reducible rfl
    rotate_left
    ·exact zV
    refine take_ (i := 1) (N := some 65) (v := ?_) (a' := ?_) #[true, true, true, false] rfl rfl (by kernel_rfl) (fun _ _ _ h => h) (Or.inl ⟨by rfl, ?_⟩) hHeld ?_ ?_
    rotate_left
    ·rintro w' ⟨s0, s1, s2⟩
     go_simp
     with_reducible rfl
    rotate_left
    ·exact zV
    refine one_ (i := 3) (N := none) #[true, true, true, true] rfl rfl (by kernel_rfl) (by decide) (fun K hK => ?_)
    have hs114 : w113.cell? ⟨gb353, 0, none⟩ = some (.slice none 0 0) := (blk_cell BK353.1 0).trans rfl
    have hfs114 := blk_frozen BK353.1 0
    have hns114_0 := NB352_353.1
    have hns114_2 := NB374_353.1
    have hns114_3 := NB391_353.1
    have hms114_0 := NB353_352.1
    have hms114_2 := NB353_374.1
    have hms114_3 := NB353_391.1
    have hs115 : w113.cell? ⟨gb353, 1, none⟩ = some (.int .i64 0) := (blk_cell BK353.1 1).trans rfl
    have hfs115 := blk_frozen BK353.1 1
    have hns115_0 := NB352_353.1
    have hns115_2 := NB374_353.1
    have hns115_3 := NB391_353.1
    have hms115_0 := NB353_352.1
    have hms115_2 := NB353_374.1
    have hms115_3 := NB353_391.1
    have hs116 : w113.cell? ⟨gb353, 2, none⟩ = some (.int .i64 0) := (blk_cell BK353.1 2).trans rfl
    have hfs116 := blk_frozen BK353.1 2
    have hns116_0 := NB352_353.1
    have hns116_2 := NB374_353.1
    have hns116_3 := NB391_353.1
    have hms116_0 := NB353_352.1
    have hms116_2 := NB353_374.1
    have hms116_3 := NB353_391.1
    refine skip_ (w1 := ?_) (by rfl) rfl ?_ ?_
    rotate_left
    ·go_simp
     rfl
    refine hK.out _ _ ⟨((cell_far (p := ⟨gb353, _, none⟩) NB391_353.1 _).trans (((cell_far (p := ⟨gb353, _, none⟩) NB391_353.1 _).trans (((cell_far (p := ⟨gb353, _, none⟩) NB391_353.1 _).trans (hHeld.1)))))), ((cell_far (p := ⟨gb353, _, none⟩) NB391_353.1 _).trans (((cell_far (p := ⟨gb353, _, none⟩) NB391_353.1 _).trans (((cell_far (p := ⟨gb353, _, none⟩) NB391_353.1 _).trans (hHeld.2.1)))))), ((cell_far (p := ⟨gb353, _, none⟩) NB391_353.1 _).trans (((cell_far (p := ⟨gb353, _, none⟩) NB391_353.1 _).trans (((cell_far (p := ⟨gb353, _, none⟩) NB391_353.1 _).trans (hHeld.2.2))))))⟩ (fun hHeld => ?_)
    clear hK K
    refine done_ (by kernel_rfl) ?_
    try go_wp2
    refine bodyPost_ret (results_tc rfl _ _ gb353 29 #[.slice Ao105 t385.length co105, .int .i64 t388, .int .i64 t389] (0, 0) _ rfl (by exact zp3 (zK BK353.1)) Try.underlying29 rfl (by kernel_rfl)) rfl ?_
    exact ⟨_, _, zE, by refine zrR ?_; exact Kd.R_mono (Kd.R_far (p := ⟨gb353, 2, none⟩) (Kd.R_far (p := ⟨gb353, 1, none⟩) (Kd.R_far (p := ⟨gb353, 0, none⟩) (Kd.R_types HO_6.1 BK353.1 (by decide)) (fun _ hk => hk.2) (.slice Ao105 t385.length co105)) (fun _ hk => hk.2) (.int .i64 t388)) (fun _ hk => hk.2) (.int .i64 t389)) (fun _ hk => hk.1), by refine zrR ?_; exact Kd.R_mono (Kd.R_far (p := ⟨gb353, 2, none⟩) (Kd.R_far (p := ⟨gb353, 1, none⟩) (Kd.R_far (p := ⟨gb353, 0, none⟩) (Kd.R_types HO387.1 BK353.1 (by decide)) (fun _ hk => hk.2) (.slice Ao105 t385.length co105)) (fun _ hk => hk.2) (.int .i64 t388)) (fun _ hk => hk.2) (.int .i64 t389)) (fun _ hk => hk.1.2), zB49⟩
   rw [if_pos c32] at H
   have c32b0 := decide_eq_true c32
   clear c32
   by_cases c33 : 0 ≤ t375
   rotate_left
   ·rw [if_neg c33] at H
    exact absurd H (by simp)
   rw [if_pos c33] at H
   have c33b0 := decide_eq_true c33
   clear c33
   by_cases c34 : t375 < (l0.length : Int)
   rotate_left
   ·rw [if_neg c34] at H
    exact absurd H (by simp)
   rw [if_pos c34] at H
   have c34b0 := decide_eq_true c34
   clear c34
   replace H := zO H
   obtain ⟨⟨t377, t380, t381, t382⟩, A35, H⟩ := H
   try dsimp only at H
   by_cases c36 : t382 ≥ 0
   rotate_left
   ·rw [if_neg c36] at H
    have c36b0 := decide_eq_false c36
    clear c36
    simp only [Option.some.injEq, Prod.mk.injEq] at H
    obtain ⟨rfl, rfl, rfl, rfl⟩ := H
    have hnb64 := NB352_353.1
    have hnc64 := NB353_352.1
    have hcz65 := zc_3 (w := wc) BK352.1
    have p367 : 0 ≤ (a1_1 : Int) := zA
    have q367 : a1_1 < (l0.length : Int) := zA
    obtain ⟨ad367, e367, hx367_0⟩ := Kd.at_int HR0.1 a1_1 p367 q367
    cases e367
    replace hx367_0 := (HB.1.cell (World.block_lt_of_cell? w _ hx367_0)).trans hx367_0
    replace p367 := eq_true p367
    replace q367 := eq_true q367
    try go_wp2_with (first | ((with_reducible refine gate_callee (f := 105) rfl ?_); refine goesL_ (some 38) rfl rfl Try.func105 (by kernel_rfl) rfl #[.int .i64 (rd l0 a1_1)] rfl zT ?_; (with_reducible refine (spec_Decode.calls (rd l0 a1_1) t368 t369 t370 t371 t372 t373 _ A30.1).mono ?_); rintro e w66 ⟨rfl, hb⟩; refine ⟨_, rfl, ?_⟩; replace HO_6 := zM (Kd.R_below (zR HO_6.1) hb); replace BK352 := zM (zb BK352.1 hb); replace BK353 := zM (zb BK353.1 hb); replace HB := zM (below_step zB46 hb); clear hb) | ((with_reducible refine gate_dst (N := 7) rfl ?_); refine box_event ?hg (N := 7) ?hd (cs := #[.int .i64 0, .int .i64 0, .int .i64 0, .int .i64 0, .int .i64 0]) (t := 59) ?hr ?_; (case hd => rfl); (case hg => rfl); (case hr => exact zHH); intro gb374 hg w67 hbox hb; replace HO_6 := zM (Kd.R_below (zR HO_6.1) hb); have BK374 := zM hbox; have GW374 := zM (zW hg (below_size zB46)); have GE374 := zM (zW hg (below_size zB46)); replace HB := zM (below_step zB46 hb); have NB352_374 := zM ((zn BK352.1 hg : gb352 ≠ gb374)); have NB374_352 := zM ((zm BK352.1 hg : gb374 ≠ gb352)); replace BK352 := zM (zb BK352.1 hb); have NB353_374 := zM ((zn BK353.1 hg : gb353 ≠ gb374)); have NB374_353 := zM ((zm BK353.1 hg : gb374 ≠ gb353)); replace BK353 := zM (zb BK353.1 hb); clear hb hbox hg; have hnb68 := NB374_352.1; have hnc68 := NB352_374.1; have hnb69 := NB374_353.1; have hnc69 := NB353_374.1; have hcz70 := zc_5 (w := w67) BK374.1; have hcz71 := zc_3 (w := w67) BK352.1) | ((with_reducible refine gate_callee (f := 106) rfl ?_); refine goesL_ (some 44) rfl rfl Try.func106 (by kernel_rfl) rfl #[.agg #[.int .i64 t368, .int .i64 t369, .int .i64 t370, .int .i64 t371, .int .i64 t372], .slice A1_0 l1_0.length c1_0] rfl zT ?_; (with_reducible refine (spec_Target.calls t368 t369 t370 t371 t372 _ _ l1_0 t375 _ ?side1 ?side2 A31.1).mono ?_); (case side1 => exact Kd.C_below HR1_0.1 zB47); (case side2 => exact HC1_0.1); rintro e w72 ⟨rfl, hb⟩; refine ⟨_, rfl, ?_⟩; replace HO_6 := zM (Kd.R_below (by refine zrR ?_; exact (Kd.R_mono (Kd.R_far (p := ⟨gb374, 4, none⟩) (Kd.R_far (p := ⟨gb374, 3, none⟩) (Kd.R_far (p := ⟨gb374, 2, none⟩) (Kd.R_far (p := ⟨gb374, 1, none⟩) (Kd.R_far (p := ⟨gb374, 0, none⟩) (Kd.R_types HO_6.1 BK374.1 (by decide)) (fun _ hk => hk.2) (.int .i64 t368)) (fun _ hk => hk.2) (.int .i64 t369)) (fun _ hk => hk.2) (.int .i64 t370)) (fun _ hk => hk.2) (.int .i64 t371)) (fun _ hk => hk.2) (.int .i64 t372)) (fun _ h_ => h_.1))) hb); replace BK352 := zM (zf BK352.1 hb); replace BK353 := zM (zf BK353.1 hb); replace BK374 := zM (blk_below (g := gb374) (o := .cells #[.int .i64 t368, .int .i64 t369, .int .i64 t370, .int .i64 t371, .int .i64 t372] 59 (0, 0)) (by exact zp5 (zK BK374.1)) hb); replace HB := zM (below_step zB47 hb); clear hb; have p376 : 0 ≤ (t375 : Int) := zA; have q376 : t375 < (l0.length : Int) := zA; obtain ⟨ad376, e376, hx376_0⟩ := Kd.at_int HR0.1 t375 p376 q376; obtain rfl : ad367 = ad376 := (by injection e376); replace hx376_0 := (HB.1.cell (World.block_lt_of_cell? w _ hx376_0)).trans hx376_0; replace p376 := eq_true p376; replace q376 := eq_true q376; have hcz73 := zc_3 (w := w72) BK352.1; have hcz74 := zc_5 (w := w72) BK374.1) | ((with_reducible refine gate_callee (f := 107) rfl ?_); refine goesL_ (some 55) rfl rfl Try.func107 (by kernel_rfl) rfl #[.agg #[.slice A1_0 l1_0.length c1_0, .int .i64 a1_1, .int .i64 a1_2], .agg #[.int .i64 t368, .int .i64 t369, .int .i64 t370, .int .i64 t371, .int .i64 t372], .int .i64 (rd l0 t375)] rfl zT ?_; (with_reducible refine (spec_Work.calls kj3 _ _ l1_0 a1_1 a1_2 t368 t369 t370 t371 t372 (rd l0 t375) t377 t380 t381 t382 _ ?side1 ?side2 A35.1).mono ?_); (case side1 => exact zC (Kd.C_below HR1_0.1 HB.1)); (case side2 => exact HC1_0.1); rintro e w75 ⟨v378, rfl, ho0, hb⟩; refine ⟨_, rfl, ?_⟩; have HO379 := zM (Kd.R_lower (Kd.R_new' ho0 (Kd.R_lt (zR HO_6.1))) (below_size zB47)); replace HO_6 := zM (Kd.R_elder' (zR HO_6.1) (Kd.R_base ho0) hb); replace BK352 := zM (zb BK352.1 hb); replace BK353 := zM (zb BK353.1 hb); replace BK374 := zM (zb BK374.1 hb); replace HB := zM (below_step zB47 hb); clear hb ho0) | ((with_reducible refine gate_dst (N := 11) rfl ?_); refine box_event ?hg (N := 11) ?hd (cs := #[.slice none 0 0, .int .i64 0, .int .i64 0]) (t := 29) ?hr ?_; (case hd => rfl); (case hg => rfl); (case hr => exact zHH); intro gb383 hg w76 hbox hb; replace HO_6 := zM (Kd.R_below (zR HO_6.1) hb); replace HO379 := zM (Kd.R_below (zR HO379.1) hb); have BK383 := zM hbox; have GW383 := zM (zW hg (below_size zB47)); have GE383 := zM (zW hg (below_size zB47)); replace HB := zM (below_step zB47 hb); have NB352_383 := zM ((zn BK352.1 hg : gb352 ≠ gb383)); have NB383_352 := zM ((zm BK352.1 hg : gb383 ≠ gb352)); replace BK352 := zM (zb BK352.1 hb); have NB353_383 := zM ((zn BK353.1 hg : gb353 ≠ gb383)); have NB383_353 := zM ((zm BK353.1 hg : gb383 ≠ gb353)); replace BK353 := zM (zb BK353.1 hb); have NB374_383 := zM ((zn BK374.1 hg : gb374 ≠ gb383)); have NB383_374 := zM ((zm BK374.1 hg : gb383 ≠ gb374)); replace BK374 := zM (zb BK374.1 hb); clear hb hbox hg; obtain ⟨Ao77, co77, eo77⟩ := Kd.R_slice HO379.1; subst eo77; have hnb78 := NB383_352.1; have hnc78 := NB352_383.1; have hnb79 := NB383_353.1; have hnc79 := NB353_383.1; have hnb80 := NB383_374.1; have hnc80 := NB374_383.1; have hcz81 := zc_3 (w := w76) BK383.1))
    have n0_ : Aside0 (Kd.R (Kd.int .i64) 3 (((w76.setCell ⟨gb383, 0, none⟩ (.slice Ao77 t377.length co77)).setCell ⟨gb383, 1, none⟩ (.int .i64 t380)).setCell ⟨gb383, 2, none⟩ (.int .i64 t381)) w.heap.size (fun k_ => some k_ ≠ (.slice Ao77 t377.length co77 : Value).ownBlock) v358 y357) := ⟨by refine zrR ?_; exact Kd.R_mono (Kd.R_far (p := ⟨gb383, 2, none⟩) (Kd.R_far (p := ⟨gb383, 1, none⟩) (Kd.R_far (p := ⟨gb383, 0, none⟩) (Kd.R_types HO_6.1 BK383.1 (by decide)) (fun _ hk => hk.2) (.slice Ao77 t377.length co77)) (fun _ hk => hk.2) (.int .i64 t380)) (fun _ hk => hk.2) (.int .i64 t381)) (fun _ hk => hk.1.2)⟩
    have n1_ : Aside0 (Kd.R (Kd.int .i64) 3 (((w76.setCell ⟨gb383, 0, none⟩ (.slice Ao77 t377.length co77)).setCell ⟨gb383, 1, none⟩ (.int .i64 t380)).setCell ⟨gb383, 2, none⟩ (.int .i64 t381)) w.heap.size (fun k_ => some k_ ≠ (v358 : Value).ownBlock) (.slice Ao77 t377.length co77) t377) := ⟨by refine zrR ?_; exact Kd.R_mono (Kd.R_far (p := ⟨gb383, 2, none⟩) (Kd.R_far (p := ⟨gb383, 1, none⟩) (Kd.R_far (p := ⟨gb383, 0, none⟩) (Kd.R_types HO379.1 BK383.1 (by decide)) (fun _ hk => hk.2) (.slice Ao77 t377.length co77)) (fun _ hk => hk.2) (.int .i64 t380)) (fun _ hk => hk.2) (.int .i64 t381)) (fun _ hk => hk.1.2)⟩
    have n2_ : Aside0 ((((w76.setCell ⟨gb383, 0, none⟩ (.slice Ao77 t377.length co77)).setCell ⟨gb383, 1, none⟩ (.int .i64 t380)).setCell ⟨gb383, 2, none⟩ (.int .i64 t381)).heap[gb352]? = some (.cells #[.slice A1_0 l1_0.length c1_0, .int .i64 a1_1, .int .i64 a1_2] 29 (0, 0))) := ⟨by refine zP ?_; refine blk_far ?_ NB352_383.1 _; refine zP ?_; refine blk_far ?_ NB352_383.1 _; refine zP ?_; refine blk_far ?_ NB352_383.1 _; refine zP ?_; exact BK352.1⟩
    have n3_ : Aside0 ((((w76.setCell ⟨gb383, 0, none⟩ (.slice Ao77 t377.length co77)).setCell ⟨gb383, 1, none⟩ (.int .i64 t380)).setCell ⟨gb383, 2, none⟩ (.int .i64 t381)).heap[gb353]? = some (.cells #[.slice none 0 0, .int .i64 0, .int .i64 0] 29 (0, 0))) := ⟨by refine zP ?_; refine blk_far ?_ NB353_383.1 _; refine zP ?_; refine blk_far ?_ NB353_383.1 _; refine zP ?_; refine blk_far ?_ NB353_383.1 _; refine zP ?_; exact BK353.1⟩
    have n4_ : Aside0 ((((w76.setCell ⟨gb383, 0, none⟩ (.slice Ao77 t377.length co77)).setCell ⟨gb383, 1, none⟩ (.int .i64 t380)).setCell ⟨gb383, 2, none⟩ (.int .i64 t381)).heap[gb374]? = some (.cells #[.int .i64 t368, .int .i64 t369, .int .i64 t370, .int .i64 t371, .int .i64 t372] 59 (0, 0))) := ⟨by refine zP ?_; refine blk_far ?_ NB374_383.1 _; refine zP ?_; refine blk_far ?_ NB374_383.1 _; refine zP ?_; refine blk_far ?_ NB374_383.1 _; refine zP ?_; exact BK374.1⟩
    have n5_ : Aside0 ((((w76.setCell ⟨gb383, 0, none⟩ (.slice Ao77 t377.length co77)).setCell ⟨gb383, 1, none⟩ (.int .i64 t380)).setCell ⟨gb383, 2, none⟩ (.int .i64 t381)).heap[gb383]? = some (.cells #[.slice Ao77 t377.length co77, .int .i64 t380, .int .i64 t381] 29 (0, 0))) := ⟨by exact zp3 (zK BK383.1)⟩
    have n6_ : Aside0 (Below w.heap.size w (((w76.setCell ⟨gb383, 0, none⟩ (.slice Ao77 t377.length co77)).setCell ⟨gb383, 1, none⟩ (.int .i64 t380)).setCell ⟨gb383, 2, none⟩ (.int .i64 t381))) := ⟨zB48⟩
    (try clear HO_6)
    (try clear HO379)
    (try clear BK352)
    (try clear BK353)
    (try clear BK374)
    (try clear BK383)
    (try clear HB)
    generalize (((w76.setCell ⟨gb383, 0, none⟩ (.slice Ao77 t377.length co77)).setCell ⟨gb383, 1, none⟩ (.int .i64 t380)).setCell ⟨gb383, 2, none⟩ (.int .i64 t381)) = w82 at n0_ n1_ n2_ n3_ n4_ n5_ n6_ ⊢
    have HO_6 := n0_
    have HO379 := n1_
    have BK352 := n2_
    have BK353 := n3_
    have BK374 := n4_
    have BK383 := n5_
    have HB := n6_
    clear n0_ n1_ n2_ n3_ n4_ n5_ n6_
    replace HO_6 := zM (Kd.R_drew HO_6.1)
    replace HO379 := zM (Kd.R_drew HO379.1)
    replace BK352 := zM (blk_drew BK352.1)
    replace BK353 := zM (blk_drew BK353.1)
    replace BK374 := zM (blk_drew BK374.1)
    replace BK383 := zM (blk_drew BK383.1)
    replace HB := zM (below_drew1 HB.1)
    refine start_ (n := 4) (S := fun w' => w'.cell? ⟨gb383, 0, none⟩ = some (.slice Ao77 t377.length co77) ∧ w'.cell? ⟨gb383, 1, none⟩ = some (.int .i64 t380) ∧ w'.cell? ⟨gb383, 2, none⟩ = some (.int .i64 t381)) (ds := []) #[false, false, false, false] (by kernel_rfl) rfl rfl ⟨(blk_cell BK383.1 0).trans rfl, (blk_cell BK383.1 1).trans rfl, (blk_cell BK383.1 2).trans rfl⟩ (fun hHeld => ?_)
    generalize w82.drew = w83 at HO_6 HO379 BK352 BK353 BK374 BK383 HB hHeld ⊢
    refine pure_ (i := 0) (N := some 64) (v := ?_) (a' := ?_) #[true, false, false, false] rfl rfl (by kernel_rfl) (fun _ _ _ h => h) (Or.inl ⟨by rfl, ?_⟩) ?_ ?_
    rotate_left
    ·intro w'
     go_simp
     with_reducible rfl
    rotate_left
    ·exact zV
    refine pure_ (i := 2) (N := some 4) (v := ?_) (a' := ?_) #[true, false, true, false] rfl rfl (by kernel_rfl) (fun _ _ _ h => h) (Or.inl ⟨by rfl, ?_⟩) ?_ ?_
    rotate_left
    ·intro w'
     go_simp
     with_reducible rfl
    rotate_left
    ·exact zV
    refine take_ (i := 1) (N := some 65) (v := ?_) (a' := ?_) #[true, true, true, false] rfl rfl (by kernel_rfl) (fun _ _ _ h => h) (Or.inl ⟨by rfl, ?_⟩) hHeld ?_ ?_
    rotate_left
    ·rintro w' ⟨s0, s1, s2⟩
     go_simp
     with_reducible rfl
    rotate_left
    ·exact zV
    refine one_ (i := 3) (N := none) #[true, true, true, true] rfl rfl (by kernel_rfl) (by decide) (fun K hK => ?_)
    have hs84 : w83.cell? ⟨gb353, 0, none⟩ = some (.slice none 0 0) := (blk_cell BK353.1 0).trans rfl
    have hfs84 := blk_frozen BK353.1 0
    have hns84_0 := NB352_353.1
    have hns84_2 := NB374_353.1
    have hns84_3 := NB383_353.1
    have hms84_0 := NB353_352.1
    have hms84_2 := NB353_374.1
    have hms84_3 := NB353_383.1
    have hs85 : w83.cell? ⟨gb353, 1, none⟩ = some (.int .i64 0) := (blk_cell BK353.1 1).trans rfl
    have hfs85 := blk_frozen BK353.1 1
    have hns85_0 := NB352_353.1
    have hns85_2 := NB374_353.1
    have hns85_3 := NB383_353.1
    have hms85_0 := NB353_352.1
    have hms85_2 := NB353_374.1
    have hms85_3 := NB353_383.1
    have hs86 : w83.cell? ⟨gb353, 2, none⟩ = some (.int .i64 0) := (blk_cell BK353.1 2).trans rfl
    have hfs86 := blk_frozen BK353.1 2
    have hns86_0 := NB352_353.1
    have hns86_2 := NB374_353.1
    have hns86_3 := NB383_353.1
    have hms86_0 := NB353_352.1
    have hms86_2 := NB353_374.1
    have hms86_3 := NB353_383.1
    refine skip_ (w1 := ?_) (by rfl) rfl ?_ ?_
    rotate_left
    ·go_simp
     rfl
    refine hK.out _ _ ⟨((cell_far (p := ⟨gb353, _, none⟩) NB383_353.1 _).trans (((cell_far (p := ⟨gb353, _, none⟩) NB383_353.1 _).trans (((cell_far (p := ⟨gb353, _, none⟩) NB383_353.1 _).trans (hHeld.1)))))), ((cell_far (p := ⟨gb353, _, none⟩) NB383_353.1 _).trans (((cell_far (p := ⟨gb353, _, none⟩) NB383_353.1 _).trans (((cell_far (p := ⟨gb353, _, none⟩) NB383_353.1 _).trans (hHeld.2.1)))))), ((cell_far (p := ⟨gb353, _, none⟩) NB383_353.1 _).trans (((cell_far (p := ⟨gb353, _, none⟩) NB383_353.1 _).trans (((cell_far (p := ⟨gb353, _, none⟩) NB383_353.1 _).trans (hHeld.2.2))))))⟩ (fun hHeld => ?_)
    clear hK K
    refine done_ (by kernel_rfl) ?_
    try go_wp2
    refine bodyPost_ret (results_tc rfl _ _ gb353 29 #[.slice Ao77 t377.length co77, .int .i64 t380, .int .i64 t381] (0, 0) _ rfl (by exact zp3 (zK BK353.1)) Try.underlying29 rfl (by kernel_rfl)) rfl ?_
    exact ⟨_, _, zE, by refine zrR ?_; exact Kd.R_mono (Kd.R_far (p := ⟨gb353, 2, none⟩) (Kd.R_far (p := ⟨gb353, 1, none⟩) (Kd.R_far (p := ⟨gb353, 0, none⟩) (Kd.R_types HO_6.1 BK353.1 (by decide)) (fun _ hk => hk.2) (.slice Ao77 t377.length co77)) (fun _ hk => hk.2) (.int .i64 t380)) (fun _ hk => hk.2) (.int .i64 t381)) (fun _ hk => hk.1), by refine zrR ?_; exact Kd.R_mono (Kd.R_far (p := ⟨gb353, 2, none⟩) (Kd.R_far (p := ⟨gb353, 1, none⟩) (Kd.R_far (p := ⟨gb353, 0, none⟩) (Kd.R_types HO379.1 BK353.1 (by decide)) (fun _ hk => hk.2) (.slice Ao77 t377.length co77)) (fun _ hk => hk.2) (.int .i64 t380)) (fun _ hk => hk.2) (.int .i64 t381)) (fun _ hk => hk.1), zB48⟩
   rw [if_pos c36] at H
   have c36b0 := decide_eq_true c36
   clear c36
   by_cases c37 : t375 < (y357.length : Int)
   rotate_left
   ·rw [if_neg c37] at H
    exact absurd H (by simp)
   rw [if_pos c37] at H
   have c37b0 := decide_eq_true c37
   clear c37
   obtain ⟨y384, hy384⟩ : ∃ y_ : List Int, y_ = (y357.set (t375 : Int).toNat t382) := ⟨_, rfl⟩
   replace H : (some (y384, t377, t380, t381)) = some (r1, r2, r3, r4) := by first | (rw [hy384]; with_reducible exact H) | (have H2_ := (Option.bind_some _ _).symm.trans H; rw [hy384]; with_reducible exact H2_) | (have H2_ := (Option.bind_some _ _).symm.trans H; with_reducible exact H2_) | with_reducible exact H | (rw [hy384]; exact H) | exact H
   have Ny384 := zM hy384
   clear hy384
   simp only [Option.some.injEq, Prod.mk.injEq] at H
   obtain ⟨rfl, rfl, rfl, rfl⟩ := H
   have hnb39 := NB352_353.1
   have hnc39 := NB353_352.1
   have hcz40 := zc_3 (w := wc) BK352.1
   have p367 : 0 ≤ (a1_1 : Int) := zA
   have q367 : a1_1 < (l0.length : Int) := zA
   obtain ⟨ad367, e367, hx367_0⟩ := Kd.at_int HR0.1 a1_1 p367 q367
   cases e367
   replace hx367_0 := (HB.1.cell (World.block_lt_of_cell? w _ hx367_0)).trans hx367_0
   replace p367 := eq_true p367
   replace q367 := eq_true q367
   try go_wp2_with (first | ((with_reducible refine gate_callee (f := 105) rfl ?_); refine goesL_ (some 38) rfl rfl Try.func105 (by kernel_rfl) rfl #[.int .i64 (rd l0 a1_1)] rfl zT ?_; (with_reducible refine (spec_Decode.calls (rd l0 a1_1) t368 t369 t370 t371 t372 t373 _ A30.1).mono ?_); rintro e w41 ⟨rfl, hb⟩; refine ⟨_, rfl, ?_⟩; replace HO_6 := zM (Kd.R_below (zR HO_6.1) hb); replace BK352 := zM (zb BK352.1 hb); replace BK353 := zM (zb BK353.1 hb); replace HB := zM (below_step zB46 hb); clear hb) | ((with_reducible refine gate_dst (N := 7) rfl ?_); refine box_event ?hg (N := 7) ?hd (cs := #[.int .i64 0, .int .i64 0, .int .i64 0, .int .i64 0, .int .i64 0]) (t := 59) ?hr ?_; (case hd => rfl); (case hg => rfl); (case hr => exact zHH); intro gb374 hg w42 hbox hb; replace HO_6 := zM (Kd.R_below (zR HO_6.1) hb); have BK374 := zM hbox; have GW374 := zM (zW hg (below_size zB46)); have GE374 := zM (zW hg (below_size zB46)); replace HB := zM (below_step zB46 hb); have NB352_374 := zM ((zn BK352.1 hg : gb352 ≠ gb374)); have NB374_352 := zM ((zm BK352.1 hg : gb374 ≠ gb352)); replace BK352 := zM (zb BK352.1 hb); have NB353_374 := zM ((zn BK353.1 hg : gb353 ≠ gb374)); have NB374_353 := zM ((zm BK353.1 hg : gb374 ≠ gb353)); replace BK353 := zM (zb BK353.1 hb); clear hb hbox hg; have hnb43 := NB374_352.1; have hnc43 := NB352_374.1; have hnb44 := NB374_353.1; have hnc44 := NB353_374.1; have hcz45 := zc_5 (w := w42) BK374.1; have hcz46 := zc_3 (w := w42) BK352.1) | ((with_reducible refine gate_callee (f := 106) rfl ?_); refine goesL_ (some 44) rfl rfl Try.func106 (by kernel_rfl) rfl #[.agg #[.int .i64 t368, .int .i64 t369, .int .i64 t370, .int .i64 t371, .int .i64 t372], .slice A1_0 l1_0.length c1_0] rfl zT ?_; (with_reducible refine (spec_Target.calls t368 t369 t370 t371 t372 _ _ l1_0 t375 _ ?side1 ?side2 A31.1).mono ?_); (case side1 => exact Kd.C_below HR1_0.1 zB47); (case side2 => exact HC1_0.1); rintro e w47 ⟨rfl, hb⟩; refine ⟨_, rfl, ?_⟩; replace HO_6 := zM (Kd.R_below (by refine zrR ?_; exact (Kd.R_mono (Kd.R_far (p := ⟨gb374, 4, none⟩) (Kd.R_far (p := ⟨gb374, 3, none⟩) (Kd.R_far (p := ⟨gb374, 2, none⟩) (Kd.R_far (p := ⟨gb374, 1, none⟩) (Kd.R_far (p := ⟨gb374, 0, none⟩) (Kd.R_types HO_6.1 BK374.1 (by decide)) (fun _ hk => hk.2) (.int .i64 t368)) (fun _ hk => hk.2) (.int .i64 t369)) (fun _ hk => hk.2) (.int .i64 t370)) (fun _ hk => hk.2) (.int .i64 t371)) (fun _ hk => hk.2) (.int .i64 t372)) (fun _ h_ => h_.1))) hb); replace BK352 := zM (zf BK352.1 hb); replace BK353 := zM (zf BK353.1 hb); replace BK374 := zM (blk_below (g := gb374) (o := .cells #[.int .i64 t368, .int .i64 t369, .int .i64 t370, .int .i64 t371, .int .i64 t372] 59 (0, 0)) (by exact zp5 (zK BK374.1)) hb); replace HB := zM (below_step zB47 hb); clear hb; have p376 : 0 ≤ (t375 : Int) := zA; have q376 : t375 < (l0.length : Int) := zA; obtain ⟨ad376, e376, hx376_0⟩ := Kd.at_int HR0.1 t375 p376 q376; obtain rfl : ad367 = ad376 := (by injection e376); replace hx376_0 := (HB.1.cell (World.block_lt_of_cell? w _ hx376_0)).trans hx376_0; replace p376 := eq_true p376; replace q376 := eq_true q376; have hcz48 := zc_3 (w := w47) BK352.1; have hcz49 := zc_5 (w := w47) BK374.1) | ((with_reducible refine gate_callee (f := 107) rfl ?_); refine goesL_ (some 55) rfl rfl Try.func107 (by kernel_rfl) rfl #[.agg #[.slice A1_0 l1_0.length c1_0, .int .i64 a1_1, .int .i64 a1_2], .agg #[.int .i64 t368, .int .i64 t369, .int .i64 t370, .int .i64 t371, .int .i64 t372], .int .i64 (rd l0 t375)] rfl zT ?_; (with_reducible refine (spec_Work.calls kj3 _ _ l1_0 a1_1 a1_2 t368 t369 t370 t371 t372 (rd l0 t375) t377 t380 t381 t382 _ ?side1 ?side2 A35.1).mono ?_); (case side1 => exact zC (Kd.C_below HR1_0.1 HB.1)); (case side2 => exact HC1_0.1); rintro e w50 ⟨v378, rfl, ho0, hb⟩; refine ⟨_, rfl, ?_⟩; have HO379 := zM (Kd.R_lower (Kd.R_new' ho0 (Kd.R_lt (zR HO_6.1))) (below_size zB47)); replace HO_6 := zM (Kd.R_elder' (zR HO_6.1) (Kd.R_base ho0) hb); replace BK352 := zM (zb BK352.1 hb); replace BK353 := zM (zb BK353.1 hb); replace BK374 := zM (zb BK374.1 hb); replace HB := zM (below_step zB47 hb); clear hb ho0) | ((with_reducible refine gate_dst (N := 11) rfl ?_); refine box_event ?hg (N := 11) ?hd (cs := #[.slice none 0 0, .int .i64 0, .int .i64 0]) (t := 29) ?hr ?_; (case hd => rfl); (case hg => rfl); (case hr => exact zHH); intro gb383 hg w51 hbox hb; replace HO_6 := zM (Kd.R_below (zR HO_6.1) hb); replace HO379 := zM (Kd.R_below (zR HO379.1) hb); have BK383 := zM hbox; have GW383 := zM (zW hg (below_size zB47)); have GE383 := zM (zW hg (below_size zB47)); replace HB := zM (below_step zB47 hb); have NB352_383 := zM ((zn BK352.1 hg : gb352 ≠ gb383)); have NB383_352 := zM ((zm BK352.1 hg : gb383 ≠ gb352)); replace BK352 := zM (zb BK352.1 hb); have NB353_383 := zM ((zn BK353.1 hg : gb353 ≠ gb383)); have NB383_353 := zM ((zm BK353.1 hg : gb383 ≠ gb353)); replace BK353 := zM (zb BK353.1 hb); have NB374_383 := zM ((zn BK374.1 hg : gb374 ≠ gb383)); have NB383_374 := zM ((zm BK374.1 hg : gb383 ≠ gb374)); replace BK374 := zM (zb BK374.1 hb); clear hb hbox hg; obtain ⟨Ao52, co52, eo52⟩ := Kd.R_slice HO379.1; subst eo52; have hnb53 := NB383_352.1; have hnc53 := NB352_383.1; have hnb54 := NB383_353.1; have hnc54 := NB353_383.1; have hnb55 := NB383_374.1; have hnc55 := NB374_383.1; have hcz56 := zc_3 (w := w51) BK383.1) | ((with_reducible refine gate_store (t := 29) (p := 11) rfl ?_); refine store_event (t := 29) (p := 11) (v := ?vo_w57) (w1 := (((w51.setCell ⟨gb383, 0, none⟩ (.slice Ao52 t377.length co52)).setCell ⟨gb383, 1, none⟩ (.int .i64 t380)).setCell ⟨gb383, 2, none⟩ (.int .i64 t381))) ?hg ?ho ?hn ?hr ?_; (case ho => rfl); (case hg => rfl); (case hn => rfl); (case hr => exact zHH); intro w57 hw; have n0_ : Aside0 (Kd.R (Kd.int .i64) 3 w57 w.heap.size (fun k_ => some k_ ≠ (.slice Ao52 t377.length co52 : Value).ownBlock) v358 y357) := ⟨(by rw [hw]; exact (by refine zrR ?_; exact Kd.R_mono (Kd.R_far (p := ⟨gb383, 2, none⟩) (Kd.R_far (p := ⟨gb383, 1, none⟩) (Kd.R_far (p := ⟨gb383, 0, none⟩) (Kd.R_types HO_6.1 BK383.1 (by decide)) (fun _ hk => hk.2) (.slice Ao52 t377.length co52)) (fun _ hk => hk.2) (.int .i64 t380)) (fun _ hk => hk.2) (.int .i64 t381)) (fun _ hk => hk.1.2)))⟩; have n1_ : Aside0 (Kd.R (Kd.int .i64) 3 w57 w.heap.size (fun k_ => some k_ ≠ (v358 : Value).ownBlock) (.slice Ao52 t377.length co52) t377) := ⟨(by rw [hw]; exact (by refine zrR ?_; exact Kd.R_mono (Kd.R_far (p := ⟨gb383, 2, none⟩) (Kd.R_far (p := ⟨gb383, 1, none⟩) (Kd.R_far (p := ⟨gb383, 0, none⟩) (Kd.R_types HO379.1 BK383.1 (by decide)) (fun _ hk => hk.2) (.slice Ao52 t377.length co52)) (fun _ hk => hk.2) (.int .i64 t380)) (fun _ hk => hk.2) (.int .i64 t381)) (fun _ hk => hk.1.2)))⟩; have n2_ : Aside0 (w57.heap[gb352]? = some (.cells #[.slice A1_0 l1_0.length c1_0, .int .i64 a1_1, .int .i64 a1_2] 29 (0, 0))) := ⟨(by rw [hw]; exact (by refine zP ?_; refine blk_far ?_ NB352_383.1 _; refine zP ?_; refine blk_far ?_ NB352_383.1 _; refine zP ?_; refine blk_far ?_ NB352_383.1 _; refine zP ?_; exact BK352.1))⟩; have n3_ : Aside0 (w57.heap[gb353]? = some (.cells #[.slice none 0 0, .int .i64 0, .int .i64 0] 29 (0, 0))) := ⟨(by rw [hw]; exact (by refine zP ?_; refine blk_far ?_ NB353_383.1 _; refine zP ?_; refine blk_far ?_ NB353_383.1 _; refine zP ?_; refine blk_far ?_ NB353_383.1 _; refine zP ?_; exact BK353.1))⟩; have n4_ : Aside0 (w57.heap[gb374]? = some (.cells #[.int .i64 t368, .int .i64 t369, .int .i64 t370, .int .i64 t371, .int .i64 t372] 59 (0, 0))) := ⟨(by rw [hw]; exact (by refine zP ?_; refine blk_far ?_ NB374_383.1 _; refine zP ?_; refine blk_far ?_ NB374_383.1 _; refine zP ?_; refine blk_far ?_ NB374_383.1 _; refine zP ?_; exact BK374.1))⟩; have n5_ : Aside0 (w57.heap[gb383]? = some (.cells #[.slice Ao52 t377.length co52, .int .i64 t380, .int .i64 t381] 29 (0, 0))) := ⟨(by rw [hw]; exact (by exact zp3 (zK BK383.1)))⟩; have n6_ : Aside0 (Below w.heap.size w w57) := ⟨(by rw [hw]; exact zB48)⟩; clear hw; clear HO_6; clear HO379; clear BK352; clear BK353; clear BK374; clear BK383; clear HB; have HO_6 := n0_; have HO379 := n1_; have BK352 := n2_; have BK353 := n3_; have BK374 := n4_; have BK383 := n5_; have HB := n6_; clear n0_ n1_ n2_ n3_ n4_ n5_ n6_; have p38 : 0 ≤ (t375 : Int) := zA; have q38 : (t375 : Int) < ((y357.length : Int) : Int) := zA; obtain ⟨go38, co38, eo38, gb38, gl38, cl38, HG38⟩ := Kd.R_form HO_6.1 (by omega); (first | cases eo38 | (injection eo38 with ea_ en_ ec_; (first | subst ea_ | (injection ea_ with ea_; subst ea_)); subst ec_; clear en_)); have GB38 := zM gb38; have GG38 := zM HG38; clear gb38 gl38 HG38; obtain ⟨hx38_0, hf38_0⟩ := Kd.R_celln 0 HO_6.1 (t375 : Int) p38 q38; replace p38 := eq_true p38; replace q38 := eq_true q38; obtain ⟨hy58_, hz58_⟩ := Kd.R_celln 0 HO_6.1 (t375 : Int) zA zA; have HP58 := Kd.R_putg HO_6.1 (t375 : Int) t382) | ((with_reducible refine gate_store (t := 3) (p := 63) rfl ?_); refine store_event (t := 3) (p := 63) (v := ?vo_w59) (w1 := (w57.setCell ⟨go38, (t375 : Int).toNat, none⟩ (.int .i64 t382))) ?hg ?ho ?hn ?hr ?_; (case ho => rfl); (case hg => rfl); (case hn => rfl); (case hr => exact zHH); intro w59 hw; have hg : w57.grownBy w59 (some go38) := (by rw [hw]; exact HP58.2); have hp_ : Kd.R (Kd.int .i64) 3 w59 w.heap.size (fun k_ => some k_ ≠ (.slice Ao52 t377.length co52 : Value).ownBlock) (.slice (some ⟨go38, 0, none⟩) y357.length co38) y384 := (by rw [hw, Ny384.1]; exact HP58.1); clear HP58; replace BK352 := zM (zg BK352.1 hg (Kd.R_ne HO_6.1 BK352.1 (by decide))); replace BK353 := zM (zg BK353.1 hg (Kd.R_ne HO_6.1 BK353.1 (by decide))); replace BK374 := zM (zg BK374.1 hg (Kd.R_ne HO_6.1 BK374.1 (by decide))); replace HO379 := zM (Kd.R_after (v := (.slice (some ⟨go38, 0, none⟩) y357.length co38)) (v1 := (.slice (some ⟨go38, 0, none⟩) y357.length co38)) (ok := (fun _ => True)) (by refine zrR ?_; exact Kd.R_mono HO379.1 (fun _ hk => ⟨trivial, hk⟩)) hg (.inl rfl)); replace BK383 := zM (zg BK383.1 hg (Kd.R_ne HO_6.1 BK383.1 (by decide))); replace HO_6 := zM hp_; replace HB := zM ((by rw [hw]; exact below_set (HB.1) GB38.1 : Below w.heap.size w w59)); clear hg hw hp_))
   replace HO_6 := zM (Kd.R_drew HO_6.1)
   replace HO379 := zM (Kd.R_drew HO379.1)
   replace BK352 := zM (blk_drew BK352.1)
   replace BK353 := zM (blk_drew BK353.1)
   replace BK374 := zM (blk_drew BK374.1)
   replace BK383 := zM (blk_drew BK383.1)
   replace HB := zM (below_drew1 HB.1)
   refine start_ (n := 4) (S := fun w' => w'.cell? ⟨gb383, 0, none⟩ = some (.slice Ao52 t377.length co52) ∧ w'.cell? ⟨gb383, 1, none⟩ = some (.int .i64 t380) ∧ w'.cell? ⟨gb383, 2, none⟩ = some (.int .i64 t381)) (ds := []) #[false, false, false, false] (by kernel_rfl) rfl rfl ⟨(blk_cell BK383.1 0).trans rfl, (blk_cell BK383.1 1).trans rfl, (blk_cell BK383.1 2).trans rfl⟩ (fun hHeld => ?_)
   generalize w59.drew = w60 at HO_6 HO379 BK352 BK353 BK374 BK383 HB hHeld ⊢
   refine pure_ (i := 0) (N := some 64) (v := ?_) (a' := ?_) #[true, false, false, false] rfl rfl (by kernel_rfl) (fun _ _ _ h => h) (Or.inl ⟨by rfl, ?_⟩) ?_ ?_
   rotate_left
   ·intro w'
    go_simp
    with_reducible rfl
   rotate_left
   ·exact zV
   refine pure_ (i := 2) (N := some 4) (v := ?_) (a' := ?_) #[true, false, true, false] rfl rfl (by kernel_rfl) (fun _ _ _ h => h) (Or.inl ⟨by rfl, ?_⟩) ?_ ?_
   rotate_left
   ·intro w'
    go_simp
    with_reducible rfl
   rotate_left
   ·exact zV
   refine take_ (i := 1) (N := some 65) (v := ?_) (a' := ?_) #[true, true, true, false] rfl rfl (by kernel_rfl) (fun _ _ _ h => h) (Or.inl ⟨by rfl, ?_⟩) hHeld ?_ ?_
   rotate_left
   ·rintro w' ⟨s0, s1, s2⟩
    go_simp
    with_reducible rfl
   rotate_left
   ·exact zV
   refine one_ (i := 3) (N := none) #[true, true, true, true] rfl rfl (by kernel_rfl) (by decide) (fun K hK => ?_)
   have hs61 : w60.cell? ⟨gb353, 0, none⟩ = some (.slice none 0 0) := (blk_cell BK353.1 0).trans rfl
   have hfs61 := blk_frozen BK353.1 0
   have hns61_0 := NB352_353.1
   have hns61_2 := NB374_353.1
   have hns61_3 := NB383_353.1
   have hms61_0 := NB353_352.1
   have hms61_2 := NB353_374.1
   have hms61_3 := NB353_383.1
   have hs62 : w60.cell? ⟨gb353, 1, none⟩ = some (.int .i64 0) := (blk_cell BK353.1 1).trans rfl
   have hfs62 := blk_frozen BK353.1 1
   have hns62_0 := NB352_353.1
   have hns62_2 := NB374_353.1
   have hns62_3 := NB383_353.1
   have hms62_0 := NB353_352.1
   have hms62_2 := NB353_374.1
   have hms62_3 := NB353_383.1
   have hs63 : w60.cell? ⟨gb353, 2, none⟩ = some (.int .i64 0) := (blk_cell BK353.1 2).trans rfl
   have hfs63 := blk_frozen BK353.1 2
   have hns63_0 := NB352_353.1
   have hns63_2 := NB374_353.1
   have hns63_3 := NB383_353.1
   have hms63_0 := NB353_352.1
   have hms63_2 := NB353_374.1
   have hms63_3 := NB353_383.1
   refine skip_ (w1 := ?_) (by rfl) rfl ?_ ?_
   rotate_left
   ·go_simp
    rfl
   refine hK.out _ _ ⟨((cell_far (p := ⟨gb353, _, none⟩) NB383_353.1 _).trans (((cell_far (p := ⟨gb353, _, none⟩) NB383_353.1 _).trans (((cell_far (p := ⟨gb353, _, none⟩) NB383_353.1 _).trans (hHeld.1)))))), ((cell_far (p := ⟨gb353, _, none⟩) NB383_353.1 _).trans (((cell_far (p := ⟨gb353, _, none⟩) NB383_353.1 _).trans (((cell_far (p := ⟨gb353, _, none⟩) NB383_353.1 _).trans (hHeld.2.1)))))), ((cell_far (p := ⟨gb353, _, none⟩) NB383_353.1 _).trans (((cell_far (p := ⟨gb353, _, none⟩) NB383_353.1 _).trans (((cell_far (p := ⟨gb353, _, none⟩) NB383_353.1 _).trans (hHeld.2.2))))))⟩ (fun hHeld => ?_)
   clear hK K
   refine done_ (by kernel_rfl) ?_
   try go_wp2
   refine bodyPost_ret (results_tc rfl _ _ gb353 29 #[.slice Ao52 t377.length co52, .int .i64 t380, .int .i64 t381] (0, 0) _ rfl (by exact zp3 (zK BK353.1)) Try.underlying29 rfl (by kernel_rfl)) rfl ?_
   exact ⟨_, _, zE, by refine zrR ?_; exact Kd.R_mono (Kd.R_far (p := ⟨gb353, 2, none⟩) (Kd.R_far (p := ⟨gb353, 1, none⟩) (Kd.R_far (p := ⟨gb353, 0, none⟩) (Kd.R_types HO_6.1 BK353.1 (by decide)) (fun _ hk => hk.2) (.slice Ao52 t377.length co52)) (fun _ hk => hk.2) (.int .i64 t380)) (fun _ hk => hk.2) (.int .i64 t381)) (fun _ hk => hk.1), by refine zrR ?_; exact Kd.R_mono (Kd.R_far (p := ⟨gb353, 2, none⟩) (Kd.R_far (p := ⟨gb353, 1, none⟩) (Kd.R_far (p := ⟨gb353, 0, none⟩) (Kd.R_types HO379.1 BK353.1 (by decide)) (fun _ hk => hk.2) (.slice Ao52 t377.length co52)) (fun _ hk => hk.2) (.int .i64 t380)) (fun _ hk => hk.2) (.int .i64 t381)) (fun _ hk => hk.1.2), zB48⟩

end Go.Proofs.Ytnjdepmlpdjghaa.PFnExactEver
