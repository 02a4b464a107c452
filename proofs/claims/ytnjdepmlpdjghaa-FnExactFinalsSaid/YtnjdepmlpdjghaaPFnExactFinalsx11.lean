-- made by wip/tools/myprint.py out of the seat's translation
import Derived.Test.YtnjdepmlpdjghaaPFnExactFinalsx0
import Derived.Test.YtnjdepmlpdjghaaPFnExactFinalsx8
import Derived.Test.YtnjdepmlpdjghaaPFnExactFinalsx9
import Derived.Test.YtnjdepmlpdjghaaPFnExactFinalsx10
namespace Go.Proofs.Ytnjdepmlpdjghaa.PFnExactFinals
open Go.RowKit Go.Proofs.YtnjdepmlpdjghaaW.PrintWords Go.Proofs.YtnjdepmlpdjghaaW.PrintLast Go.Proofs.YtnjdepmlpdjghaaW.PrintMore
attribute [local go_sem] max2_int min2_int max_two min_two max_three min_three max_four min_four   -- for this text's walks alone
set_option linter.unusedVariables false
set_option linter.unusedSimpArgs false
set_option maxHeartbeats 8000000
set_option maxRecDepth 100000

/-! ### spec_FlatStep: function 77 -/
def spec_FlatStep.j0 : Nat → List Int → List Int → Bool → List Int → Int → Int → Option (List Int × List Int × Int × Int)
 | 0, _, _, _, _, _, _ => none
 | k + 1, x0, x6, x28, x314000, x314001, x314002 => if x28 = true then ((spec_l9Copy.f x314000 x314001 x314002).bind fun bt323 => (some (x6, bt323.1, bt323.2.1, bt323.2.2))) else (if 0 ≤ x314001 then (if x314001 < (x0.length : Int) then ((spec_Decode.f (rd x0 x314001)).bind fun bt329 => ((spec_Target.f bt329.1 bt329.2.1 bt329.2.2.1 bt329.2.2.2.1 bt329.2.2.2.2.1 x314000).bind fun t336 => (if t336 ≥ 0 then (if 0 ≤ t336 then (if t336 < (x0.length : Int) then ((spec_Work.f k x314000 x314001 x314002 bt329.1 bt329.2.1 bt329.2.2.1 bt329.2.2.2.1 bt329.2.2.2.2.1 (rd x0 t336)).bind fun bt338 => (if bt338.2.2.2 ≥ 0 then (if t336 < (x6.length : Int) then (some ((x6.set (t336 : Int).toNat bt338.2.2.2), bt338.1, bt338.2.1, bt338.2.2.1)) else (none)) else (some (x6, bt338.1, bt338.2.1, bt338.2.2.1)))) else (none)) else (none)) else ((spec_Work.f k x314000 x314001 x314002 bt329.1 bt329.2.1 bt329.2.2.1 bt329.2.2.2.1 bt329.2.2.2.2.1 0).bind fun bt346 => (if bt346.2.2.2 ≥ 0 then (if 0 ≤ t336 then (if t336 < (x6.length : Int) then (some ((x6.set (t336 : Int).toNat bt346.2.2.2), bt346.1, bt346.2.1, bt346.2.2.1)) else (none)) else (none)) else (some (x6, bt346.1, bt346.2.1, bt346.2.2.1))))))) else (none)) else (none))
def spec_FlatStep.f (k : Nat) (l0 : List Int) (l1_0 : List Int) (a1_1 : Int) (a1_2 : Int) : Option (List Int × List Int × Int × Int) := (some (([] : List Int) : List Int)).bind fun y315 => (if y315.length + l0.length < 17592186044416 then ((some (y315 ++ l0 : List Int)).bind fun y318 => ((spec_l1Words.f k l0 24).bind fun t321 => (if t321 = true then ((spec_HartOk.f k l1_0 a1_1 a1_2).bind fun t322 => (if t322 = true then (spec_FlatStep.j0 k l0 y318 (a1_2 != 0) l1_0 a1_1 a1_2) else (spec_FlatStep.j0 k l0 y318 true l1_0 a1_1 a1_2))) else (spec_FlatStep.j0 k l0 y318 true l1_0 a1_1 a1_2)))) else (none))
theorem spec_FlatStep.mono_l : ∀ k, (∀ y0 y1 y2 y3 y4 y5, LeO (spec_FlatStep.j0 k y0 y1 y2 y3 y4 y5) (spec_FlatStep.j0 (k + 1) y0 y1 y2 y3 y4 y5))
 | 0 => fun _ _ _ _ _ _ r h => by simp [spec_FlatStep.j0] at h
 | k + 1 => by
  have ih0 := spec_FlatStep.mono_l k
  ·intros
   unfold spec_FlatStep.j0
   have mo0 := @spec_HartOk.mono
   have mo1 := @spec_Work.mono
   have mo2 := @spec_l1Words.mono
   exact zL
theorem spec_FlatStep.mono : ∀ a0 a1 a2 a3 k, LeO (spec_FlatStep.f k a0 a1 a2 a3) (spec_FlatStep.f (k + 1) a0 a1 a2 a3) := by
 intro a0 a1 a2 a3 k
 have ih0 := spec_FlatStep.mono_l k
 unfold spec_FlatStep.f
 have mo0 := @spec_HartOk.mono
 have mo1 := @spec_Work.mono
 have mo2 := @spec_l1Words.mono
 exact zL
theorem spec_FlatStep.calls (k : Nat) (A0 : Option Addr) (c0 : Nat) (l0 : List Int) (A1_0 : Option Addr) (c1_0 : Nat) (l1_0 : List Int) (a1_1 : Int) (a1_2 : Int) (r1 : List Int) (r2 : List Int) (r3 : Int) (r4 : Int) (w : World) (hr0 : Kd.C (Kd.int .i64) w A0 l0.length l0) (hc0 : l0.length ≤ c0) (hr1_0 : Kd.C (Kd.int .i64) w A1_0 l1_0.length l1_0) (hc1_0 : l1_0.length ≤ c1_0) (h : spec_FlatStep.f k l0 l1_0 a1_1 a1_2 = some (r1, r2, r3, r4)) :
  Calls Try.prog 77 #[.slice A0 l0.length c0, .agg #[.slice A1_0 l1_0.length c1_0, .int .i64 a1_1, .int .i64 a1_2]] w fun e w' => ∃ v0_ v1_ : Value, e = .returned (.tuple #[v0_, .agg #[v1_, .int .i64 r3, .int .i64 r4]]) ∧ Kd.R (Kd.int .i64) 3 w' w.heap.size (fun k_ => some k_ ≠ (v1_ : Value).ownBlock) v0_ r1 ∧ Kd.R (Kd.int .i64) 3 w' w.heap.size (fun k_ => some k_ ≠ (v0_ : Value).ownBlock) v1_ r2 ∧ Below w.heap.size w w' := by
 have hu29 := Try.underlying29
 have hu59 := Try.underlying59
 have HR0 := zM hr0
 have HC0 := zM hc0
 clear hr0 hc0
 have HR1_0 := zM hr1_0
 have HC1_0 := zM hc1_0
 clear hr1_0 hc1_0
 have HB := zM (Below.refl w.heap.size w)
 unfold spec_FlatStep.f at h
 have H := h
 clear h
 obtain ⟨y315, hy315⟩ : ∃ y_ : List Int, y_ = (([] : List Int)) := ⟨_, rfl⟩
 replace H : (if y315.length + l0.length < 17592186044416 then ((some (y315 ++ l0 : List Int)).bind fun y318 => ((spec_l1Words.f k l0 24).bind fun t321 => (if t321 = true then ((spec_HartOk.f k l1_0 a1_1 a1_2).bind fun t322 => (if t322 = true then (spec_FlatStep.j0 k l0 y318 (a1_2 != 0) l1_0 a1_1 a1_2) else (spec_FlatStep.j0 k l0 y318 true l1_0 a1_1 a1_2))) else (spec_FlatStep.j0 k l0 y318 true l1_0 a1_1 a1_2)))) else (none)) = some (r1, r2, r3, r4) := by first | (rw [hy315]; with_reducible exact H) | (have H2_ := (Option.bind_some _ _).symm.trans H; rw [hy315]; with_reducible exact H2_) | (have H2_ := (Option.bind_some _ _).symm.trans H; with_reducible exact H2_) | with_reducible exact H | (rw [hy315]; exact H) | exact H
 have Ny315 := zM hy315
 clear hy315
 by_cases c3 : y315.length + l0.length < 17592186044416
 rotate_left
 ·rw [if_neg c3] at H
  exact absurd H (by simp)
 rw [if_pos c3] at H
 have LMc3 := zM c3
 clear c3
 obtain ⟨y318, hy318⟩ : ∃ y_ : List Int, y_ = (y315 ++ l0) := ⟨_, rfl⟩
 replace H : ((spec_l1Words.f k l0 24).bind fun t321 => (if t321 = true then ((spec_HartOk.f k l1_0 a1_1 a1_2).bind fun t322 => (if t322 = true then (spec_FlatStep.j0 k l0 y318 (a1_2 != 0) l1_0 a1_1 a1_2) else (spec_FlatStep.j0 k l0 y318 true l1_0 a1_1 a1_2))) else (spec_FlatStep.j0 k l0 y318 true l1_0 a1_1 a1_2))) = some (r1, r2, r3, r4) := by first | (rw [hy318]; with_reducible exact H) | (have H2_ := (Option.bind_some _ _).symm.trans H; rw [hy318]; with_reducible exact H2_) | (have H2_ := (Option.bind_some _ _).symm.trans H; with_reducible exact H2_) | with_reducible exact H | (rw [hy318]; exact H) | exact H
 have Ny318 := zM hy318
 clear hy318
 have HC4 := zM H
 clear H
 go_enter Try.func77, Try.ntmps77
 go_upto_region 2 with (first | ((with_reducible refine gate_dst (N := 3) rfl ?_); refine box_event ?hg (N := 3) ?hd (cs := #[.slice A1_0 l1_0.length c1_0, .int .i64 a1_1, .int .i64 a1_2]) (t := 29) ?hr ?_; (case hd => rfl); (case hg => rfl); (case hr => exact zHH); intro gb313 hg w5 hbox hb; have BK313 := zM hbox; have GW313 := zM (zW hg (below_size zB0)); have GE313 := zM (zW hg (below_size zB0)); replace HB := zM (below_step zB0 hb); clear hb hbox hg) | ((with_reducible refine gate_dst (N := 5) rfl ?_); refine box_event ?hg (N := 5) ?hd (cs := #[.slice none 0 0, .int .i64 0, .int .i64 0]) (t := 29) ?hr ?_; (case hd => rfl); (case hg => rfl); (case hr => exact zHH); intro gb314 hg w6 hbox hb; have BK314 := zM hbox; have GW314 := zM (zW hg (below_size zB39)); have GE314 := zM (zW hg (below_size zB39)); replace HB := zM (below_step zB39 hb); have NB313_314 := zM ((zn BK313.1 hg : gb313 ≠ gb314)); have NB314_313 := zM ((zm BK313.1 hg : gb314 ≠ gb313)); replace BK313 := zM (zb BK313.1 hb); clear hb hbox hg) | ((with_reducible refine gate_dst (N := 13) rfl ?_); refine Kd.R_lit (Kd.int .i64) _ 3 ?hg (N := 13) ?hd (xs := ([] : List Int)) (inner := []) (ok := fun _ => True) (okp := fun _ => True) ?hr ?hp (fun _ hk => hk) trivial (Below.refl _ _) (Nat.le_refl _) (by simp) ?_; (case hd => rfl); (case hg => rfl); (case hr => exact zHH); (case hp => exact (Reps.none _ _)); intro v316 w7 ho8 hb hg_ hnew_; clear hg_ hnew_; (first | rw [← Ny315.1] at ho8 | (simp only [Int.reduceToNat] at ho8; rw [← Ny315.1] at ho8)); have HO317 := zM (Kd.R_lower ho8 (below_size zB40)); replace BK313 := zM (zb BK313.1 hb); replace BK314 := zM (zb BK314.1 hb); replace HB := zM (below_step zB40 hb); clear hb ho8) | ((with_reducible refine gate_builtin (b := .append) (xs := #[.tmp 13, .tmp 14]) rfl ?_); at_builtin; refine Kd.R_append_rows (Kd.int .i64) (w0 := w) w.heap.size rfl (.tmp 13) (.tmp 14) 24 3 (.int .i64 0) 8 rfl Try.underlying24 info3 rfl (by decide) (by omega) v316 y315 l0 _ _ _ (fun _ => True) (fun _ => False) rfl rfl ?aO ?aR (fun _ _ h => h) (fun _ h => h.elim) ?aF ?aB ?aS ?aL ?_; (case aR => exact zC (Kd.C_below HR0.1 HB.1)); (case aB => exact zB40); (case aF => exact (fun _ _ => trivial)); (case aO => exact (zR HO317.1)); (case aS => exact (below_size zB40)); (case aL => have := LMc3.out; omega); intro v319 w9 ho hb hg hat; rw [← Ny318.1] at ho; replace BK313 := zM (zg BK313.1 hg (Kd.R_ne HO317.1 BK313.1 (by decide))); replace BK314 := zM (zg BK314.1 hg (Kd.R_ne HO317.1 BK314.1 (by decide))); replace HB := zM hb; have HO320 := zM ho; clear HO317; clear ho hb hg hat))
 (try simp only [Act.put, List.setIfInBounds_toArray, List.set_cons_zero, List.set_cons_succ])
 go_cut [28] (fun v28 wc => ∃ (kq : Nat) (x28_3 : Bool), v28 = .bool x28_3 ∧ Aside0 (spec_FlatStep.j0 kq l0 y318 x28_3 l1_0 a1_1 a1_2 = some (r1, r2, r3, r4)) ∧ Aside0 (kq ≤ k) ∧ Aside0 (Kd.R (Kd.int .i64) 3 wc w.heap.size (fun _ => True) v319 y318) ∧ Aside0 (wc.heap[gb313]? = some (.cells #[(.slice A1_0 l1_0.length c1_0), .int .i64 a1_1, .int .i64 a1_2] 29 (0, 0))) ∧ Aside0 (wc.heap[gb314]? = some (.cells #[(.slice none 0 0), .int .i64 0, .int .i64 0] 29 (0, 0))) ∧ Aside0 (Below w.heap.size w wc))
 case first =>
  have H := HC4.1
  clear HC4
  replace H := zO H
  obtain ⟨t321, A10, H⟩ := H
  by_cases c11 : t321 = true
  rotate_left
  ·replace c11 := Bool.eq_false_iff.mpr c11
   subst c11
   rw [if_neg zF] at H
   have H' := zM H
   clear H
   go_wp2_with (first | ((with_reducible refine gate_callee (f := 53) rfl ?_); refine goesL_ (some 17) rfl rfl Try.func53 (by kernel_rfl) rfl #[.slice A0 l0.length c0, .int .i64 24] rfl zT ?_; (with_reducible refine (spec_l1Words.calls k _ _ l0 24 false _ ?side1 ?side2 A10.1).mono ?_); (case side1 => exact zC (Kd.C_below HR0.1 HB.1)); (case side2 => exact HC0.1); rintro e w' ⟨rfl, ⟨nd, rfl⟩⟩; refine ⟨_, rfl, ?_⟩))
   go_meet
   case rel => exact ⟨_, (true), zJJ, H', ⟨by first | omega | exact Nat.le_refl _⟩, ⟨zR HO320.1⟩, ⟨zK BK313.1⟩, ⟨zK BK314.1⟩, ⟨zB40⟩⟩
  subst c11
  rw [if_pos rfl] at H
  replace H := zO H
  obtain ⟨t322, A12, H⟩ := H
  by_cases c13 : t322 = true
  rotate_left
  ·replace c13 := Bool.eq_false_iff.mpr c13
   subst c13
   rw [if_neg zF] at H
   have H' := zM H
   clear H
   go_wp2_with (first | ((with_reducible refine gate_callee (f := 53) rfl ?_); refine goesL_ (some 17) rfl rfl Try.func53 (by kernel_rfl) rfl #[.slice A0 l0.length c0, .int .i64 24] rfl zT ?_; (with_reducible refine (spec_l1Words.calls k _ _ l0 24 true _ ?side1 ?side2 A10.1).mono ?_); (case side1 => exact zC (Kd.C_below HR0.1 HB.1)); (case side2 => exact HC0.1); rintro e w' ⟨rfl, ⟨nd, rfl⟩⟩; refine ⟨_, rfl, ?_⟩; have hnb18 := NB313_314.1; have hnc18 := NB314_313.1; have hcz19 := zc_3 (w := w9) BK313.1) | (go_at_call 52; (with_reducible refine (spec_HartOk.calls k _ _ l1_0 a1_1 a1_2 false _ ?side1 ?side2 A12.1).mono ?_); (case side1 => repeat (first | exact (Kd.C_below HR1_0.1 zB40) | (with_reducible refine Kd.C_alloc ?_ _) | (with_reducible refine Kd.C_drewN ?_ _) | (with_reducible refine Kd.C_drew ?_))); (case side2 => exact HC1_0.1); rintro e w20 ⟨rfl, hb⟩; replace HO320 := zM (Kd.R_below (zR HO320.1) hb); replace BK313 := zM (zb BK313.1 hb); replace BK314 := zM (zb BK314.1 hb); replace HB := zM (below_step zB40 hb); clear hb))
   go_meet
   case rel => exact ⟨_, (true), zJJ, H', ⟨by first | omega | exact Nat.le_refl _⟩, ⟨zR HO320.1⟩, ⟨zK BK313.1⟩, ⟨zK BK314.1⟩, ⟨zB40⟩⟩
  subst c13
  rw [if_pos rfl] at H
  have H' := zM H
  clear H
  go_wp2_with (first | ((with_reducible refine gate_callee (f := 53) rfl ?_); refine goesL_ (some 17) rfl rfl Try.func53 (by kernel_rfl) rfl #[.slice A0 l0.length c0, .int .i64 24] rfl zT ?_; (with_reducible refine (spec_l1Words.calls k _ _ l0 24 true _ ?side1 ?side2 A10.1).mono ?_); (case side1 => exact zC (Kd.C_below HR0.1 HB.1)); (case side2 => exact HC0.1); rintro e w' ⟨rfl, ⟨nd, rfl⟩⟩; refine ⟨_, rfl, ?_⟩; have hnb14 := NB313_314.1; have hnc14 := NB314_313.1; have hcz15 := zc_3 (w := w9) BK313.1) | (go_at_call 52; (with_reducible refine (spec_HartOk.calls k _ _ l1_0 a1_1 a1_2 true _ ?side1 ?side2 A12.1).mono ?_); (case side1 => repeat (first | exact (Kd.C_below HR1_0.1 zB40) | (with_reducible refine Kd.C_alloc ?_ _) | (with_reducible refine Kd.C_drewN ?_ _) | (with_reducible refine Kd.C_drew ?_))); (case side2 => exact HC1_0.1); rintro e w16 ⟨rfl, hb⟩; replace HO320 := zM (Kd.R_below (zR HO320.1) hb); replace BK313 := zM (zb BK313.1 hb); replace BK314 := zM (zb BK314.1 hb); replace HB := zM (below_step zB40 hb); clear hb; have hcz17 := zc_3 (w := w16) BK313.1))
  go_meet
  case rel => exact ⟨_, ((a1_2 != 0)), zJJ, H', ⟨by first | omega | exact Nat.le_refl _⟩, ⟨zR HO320.1⟩, ⟨zK BK313.1⟩, ⟨zK BK314.1⟩, ⟨zB40⟩⟩
 case rest =>
  clear HC4
  try clear c1
  try clear p2
  try clear c3
  try clear c5
  try clear c7
  try clear c11
  try clear c13
  try clear c14
  try clear c18
  try clear hcz15
  try clear hcz17
  try clear hcz19
  obtain ⟨kq, x28_3, rfl, HA, HJ3, HO_6, BK313, BK314, HB⟩ := hcut
  cases kq with
  | zero => exact absurd HA.1 (by simp [spec_FlatStep.j0])
  | succ kj3 =>
   have H := HA.1
   clear HA
   simp only [spec_FlatStep.j0] at H
   by_cases c21 : x28_3 = true
   ·subst c21
    rw [if_pos rfl] at H
    replace H := zO H
    obtain ⟨⟨t323, t326, t327⟩, A22, H⟩ := H
    try dsimp only at H
    simp only [Option.some.injEq, Prod.mk.injEq] at H
    obtain ⟨rfl, rfl, rfl, rfl⟩ := H
    have hnb23 := NB313_314.1
    have hnc23 := NB314_313.1
    have hcz24 := zc_3 (w := wc) BK313.1
    go_wp2_with (first | ((with_reducible refine gate_callee (f := 104) rfl ?_); refine goesL_ (some 31) rfl rfl Try.func104 (by kernel_rfl) rfl #[.agg #[.slice A1_0 l1_0.length c1_0, .int .i64 a1_1, .int .i64 a1_2]] rfl zT ?_; (with_reducible refine (spec_l9Copy.calls _ _ l1_0 a1_1 a1_2 t323 t326 t327 _ ?side1 ?side2 A22.1).mono ?_); (case side1 => exact zC (Kd.C_below HR1_0.1 HB.1)); (case side2 => exact HC1_0.1); rintro e w25 ⟨v324, rfl, ho0, hb⟩; refine ⟨_, rfl, ?_⟩; have HO325 := zM (Kd.R_lower (Kd.R_new' ho0 (Kd.R_lt (zR HO_6.1))) (below_size zB40)); replace HO_6 := zM (Kd.R_elder' (zR HO_6.1) (Kd.R_base ho0) hb); replace BK313 := zM (zb BK313.1 hb); replace BK314 := zM (zb BK314.1 hb); replace HB := zM (below_step zB40 hb); clear hb ho0; obtain ⟨Ao26, co26, eo26⟩ := Kd.R_slice HO325.1; subst eo26; have hcz27 := zc_3 (w := w25) BK314.1))
    refine bodyPost_ret (results_tc rfl _ _ gb314 29 #[.slice Ao26 t323.length co26, .int .i64 t326, .int .i64 t327] (0, 0) _ rfl (by exact zp3 (zK BK314.1)) Try.underlying29 rfl (by kernel_rfl)) rfl ?_
    exact ⟨_, _, zE, by refine zrR ?_; exact Kd.R_mono (Kd.R_far (p := ⟨gb314, 2, none⟩) (Kd.R_far (p := ⟨gb314, 1, none⟩) (Kd.R_far (p := ⟨gb314, 0, none⟩) (Kd.R_types HO_6.1 BK314.1 (by decide)) (fun _ hk => hk.2) (.slice Ao26 t323.length co26)) (fun _ hk => hk.2) (.int .i64 t326)) (fun _ hk => hk.2) (.int .i64 t327)) (fun _ hk => hk.1.2), by refine zrR ?_; exact Kd.R_mono (Kd.R_far (p := ⟨gb314, 2, none⟩) (Kd.R_far (p := ⟨gb314, 1, none⟩) (Kd.R_far (p := ⟨gb314, 0, none⟩) (Kd.R_types HO325.1 BK314.1 (by decide)) (fun _ hk => hk.2) (.slice Ao26 t323.length co26)) (fun _ hk => hk.2) (.int .i64 t326)) (fun _ hk => hk.2) (.int .i64 t327)) (fun _ hk => hk.1.2), zB40⟩
   replace c21 := Bool.eq_false_iff.mpr c21
   subst c21
   rw [if_neg zF] at H
   by_cases c28 : 0 ≤ a1_1
   rotate_left
   ·rw [if_neg c28] at H
    exact absurd H (by simp)
   rw [if_pos c28] at H
   have c28b0 := decide_eq_true c28
   clear c28
   by_cases c29 : a1_1 < (l0.length : Int)
   rotate_left
   ·rw [if_neg c29] at H
    exact absurd H (by simp)
   rw [if_pos c29] at H
   have c29b0 := decide_eq_true c29
   clear c29
   replace H := zO H
   obtain ⟨⟨t329, t330, t331, t332, t333, t334⟩, A30, H⟩ := H
   try dsimp only at H
   replace H := zO H
   obtain ⟨t336, A31, H⟩ := H
   by_cases c32 : t336 ≥ 0
   rotate_left
   ·rw [if_neg c32] at H
    have c32b0 := decide_eq_false c32
    clear c32
    replace H := zO H
    obtain ⟨⟨t346, t349, t350, t351⟩, A87, H⟩ := H
    try dsimp only at H
    by_cases c88 : t351 ≥ 0
    rotate_left
    ·rw [if_neg c88] at H
     have c88b0 := decide_eq_false c88
     clear c88
     simp only [Option.some.injEq, Prod.mk.injEq] at H
     obtain ⟨rfl, rfl, rfl, rfl⟩ := H
     have hnb117 := NB313_314.1
     have hnc117 := NB314_313.1
     have hcz118 := zc_3 (w := wc) BK313.1
     have p328 : 0 ≤ (a1_1 : Int) := zA
     have q328 : a1_1 < (l0.length : Int) := zA
     obtain ⟨ad328, e328, hx328_0⟩ := Kd.at_int HR0.1 a1_1 p328 q328
     cases e328
     replace hx328_0 := (HB.1.cell (World.block_lt_of_cell? w _ hx328_0)).trans hx328_0
     replace p328 := eq_true p328
     replace q328 := eq_true q328
     try go_wp2_with (first | ((with_reducible refine gate_callee (f := 105) rfl ?_); refine goesL_ (some 38) rfl rfl Try.func105 (by kernel_rfl) rfl #[.int .i64 (rd l0 a1_1)] rfl zT ?_; (with_reducible refine (spec_Decode.calls (rd l0 a1_1) t329 t330 t331 t332 t333 t334 _ A30.1).mono ?_); rintro e w119 ⟨rfl, hb⟩; refine ⟨_, rfl, ?_⟩; replace HO_6 := zM (Kd.R_below (zR HO_6.1) hb); replace BK313 := zM (zb BK313.1 hb); replace BK314 := zM (zb BK314.1 hb); replace HB := zM (below_step zB40 hb); clear hb) | ((with_reducible refine gate_dst (N := 7) rfl ?_); refine box_event ?hg (N := 7) ?hd (cs := #[.int .i64 0, .int .i64 0, .int .i64 0, .int .i64 0, .int .i64 0]) (t := 59) ?hr ?_; (case hd => rfl); (case hg => rfl); (case hr => exact zHH); intro gb335 hg w120 hbox hb; replace HO_6 := zM (Kd.R_below (zR HO_6.1) hb); have BK335 := zM hbox; have GW335 := zM (zW hg (below_size zB40)); have GE335 := zM (zW hg (below_size zB40)); replace HB := zM (below_step zB40 hb); have NB313_335 := zM ((zn BK313.1 hg : gb313 ≠ gb335)); have NB335_313 := zM ((zm BK313.1 hg : gb335 ≠ gb313)); replace BK313 := zM (zb BK313.1 hb); have NB314_335 := zM ((zn BK314.1 hg : gb314 ≠ gb335)); have NB335_314 := zM ((zm BK314.1 hg : gb335 ≠ gb314)); replace BK314 := zM (zb BK314.1 hb); clear hb hbox hg; have hnb121 := NB335_313.1; have hnc121 := NB313_335.1; have hnb122 := NB335_314.1; have hnc122 := NB314_335.1; have hcz123 := zc_5 (w := w120) BK335.1; have hcz124 := zc_3 (w := w120) BK313.1) | ((with_reducible refine gate_callee (f := 106) rfl ?_); refine goesL_ (some 44) rfl rfl Try.func106 (by kernel_rfl) rfl #[.agg #[.int .i64 t329, .int .i64 t330, .int .i64 t331, .int .i64 t332, .int .i64 t333], .slice A1_0 l1_0.length c1_0] rfl zT ?_; (with_reducible refine (spec_Target.calls t329 t330 t331 t332 t333 _ _ l1_0 t336 _ ?side1 ?side2 A31.1).mono ?_); (case side1 => exact Kd.C_below HR1_0.1 zB41); (case side2 => exact HC1_0.1); rintro e w125 ⟨rfl, hb⟩; refine ⟨_, rfl, ?_⟩; replace HO_6 := zM (Kd.R_below (by refine zrR ?_; exact (Kd.R_mono (Kd.R_far (p := ⟨gb335, 4, none⟩) (Kd.R_far (p := ⟨gb335, 3, none⟩) (Kd.R_far (p := ⟨gb335, 2, none⟩) (Kd.R_far (p := ⟨gb335, 1, none⟩) (Kd.R_far (p := ⟨gb335, 0, none⟩) (Kd.R_types HO_6.1 BK335.1 (by decide)) (fun _ hk => hk.2) (.int .i64 t329)) (fun _ hk => hk.2) (.int .i64 t330)) (fun _ hk => hk.2) (.int .i64 t331)) (fun _ hk => hk.2) (.int .i64 t332)) (fun _ hk => hk.2) (.int .i64 t333)) (fun _ h_ => h_.1))) hb); replace BK313 := zM (zf BK313.1 hb); replace BK314 := zM (zf BK314.1 hb); replace BK335 := zM (blk_below (g := gb335) (o := .cells #[.int .i64 t329, .int .i64 t330, .int .i64 t331, .int .i64 t332, .int .i64 t333] 59 (0, 0)) (by exact zp5 (zK BK335.1)) hb); replace HB := zM (below_step zB41 hb); clear hb; have hcz126 := zc_3 (w := w125) BK313.1; have hcz127 := zc_5 (w := w125) BK335.1) | ((with_reducible refine gate_callee (f := 107) rfl ?_); refine goesL_ (some 55) rfl rfl Try.func107 (by kernel_rfl) rfl #[.agg #[.slice A1_0 l1_0.length c1_0, .int .i64 a1_1, .int .i64 a1_2], .agg #[.int .i64 t329, .int .i64 t330, .int .i64 t331, .int .i64 t332, .int .i64 t333], .int .i64 0] rfl zT ?_; (with_reducible refine (spec_Work.calls kj3 _ _ l1_0 a1_1 a1_2 t329 t330 t331 t332 t333 0 t346 t349 t350 t351 _ ?side1 ?side2 A87.1).mono ?_); (case side1 => exact zC (Kd.C_below HR1_0.1 HB.1)); (case side2 => exact HC1_0.1); rintro e w128 ⟨v347, rfl, ho0, hb⟩; refine ⟨_, rfl, ?_⟩; have HO348 := zM (Kd.R_lower (Kd.R_new' ho0 (Kd.R_lt (zR HO_6.1))) (below_size zB41)); replace HO_6 := zM (Kd.R_elder' (zR HO_6.1) (Kd.R_base ho0) hb); replace BK313 := zM (zb BK313.1 hb); replace BK314 := zM (zb BK314.1 hb); replace BK335 := zM (zb BK335.1 hb); replace HB := zM (below_step zB41 hb); clear hb ho0) | ((with_reducible refine gate_dst (N := 11) rfl ?_); refine box_event ?hg (N := 11) ?hd (cs := #[.slice none 0 0, .int .i64 0, .int .i64 0]) (t := 29) ?hr ?_; (case hd => rfl); (case hg => rfl); (case hr => exact zHH); intro gb352 hg w129 hbox hb; replace HO_6 := zM (Kd.R_below (zR HO_6.1) hb); replace HO348 := zM (Kd.R_below (zR HO348.1) hb); have BK352 := zM hbox; have GW352 := zM (zW hg (below_size zB41)); have GE352 := zM (zW hg (below_size zB41)); replace HB := zM (below_step zB41 hb); have NB313_352 := zM ((zn BK313.1 hg : gb313 ≠ gb352)); have NB352_313 := zM ((zm BK313.1 hg : gb352 ≠ gb313)); replace BK313 := zM (zb BK313.1 hb); have NB314_352 := zM ((zn BK314.1 hg : gb314 ≠ gb352)); have NB352_314 := zM ((zm BK314.1 hg : gb352 ≠ gb314)); replace BK314 := zM (zb BK314.1 hb); have NB335_352 := zM ((zn BK335.1 hg : gb335 ≠ gb352)); have NB352_335 := zM ((zm BK335.1 hg : gb352 ≠ gb335)); replace BK335 := zM (zb BK335.1 hb); clear hb hbox hg; obtain ⟨Ao130, co130, eo130⟩ := Kd.R_slice HO348.1; subst eo130; have hnb131 := NB352_313.1; have hnc131 := NB313_352.1; have hnb132 := NB352_314.1; have hnc132 := NB314_352.1; have hnb133 := NB352_335.1; have hnc133 := NB335_352.1; have hcz134 := zc_3 (w := w129) BK352.1))
     have n0_ : Aside0 (Kd.R (Kd.int .i64) 3 (((w129.setCell ⟨gb352, 0, none⟩ (.slice Ao130 t346.length co130)).setCell ⟨gb352, 1, none⟩ (.int .i64 t349)).setCell ⟨gb352, 2, none⟩ (.int .i64 t350)) w.heap.size (fun k_ => some k_ ≠ (.slice Ao130 t346.length co130 : Value).ownBlock) v319 y318) := ⟨by refine zrR ?_; exact Kd.R_mono (Kd.R_far (p := ⟨gb352, 2, none⟩) (Kd.R_far (p := ⟨gb352, 1, none⟩) (Kd.R_far (p := ⟨gb352, 0, none⟩) (Kd.R_types HO_6.1 BK352.1 (by decide)) (fun _ hk => hk.2) (.slice Ao130 t346.length co130)) (fun _ hk => hk.2) (.int .i64 t349)) (fun _ hk => hk.2) (.int .i64 t350)) (fun _ hk => hk.1.2)⟩
     have n1_ : Aside0 (Kd.R (Kd.int .i64) 3 (((w129.setCell ⟨gb352, 0, none⟩ (.slice Ao130 t346.length co130)).setCell ⟨gb352, 1, none⟩ (.int .i64 t349)).setCell ⟨gb352, 2, none⟩ (.int .i64 t350)) w.heap.size (fun k_ => some k_ ≠ (v319 : Value).ownBlock) (.slice Ao130 t346.length co130) t346) := ⟨by refine zrR ?_; exact Kd.R_mono (Kd.R_far (p := ⟨gb352, 2, none⟩) (Kd.R_far (p := ⟨gb352, 1, none⟩) (Kd.R_far (p := ⟨gb352, 0, none⟩) (Kd.R_types HO348.1 BK352.1 (by decide)) (fun _ hk => hk.2) (.slice Ao130 t346.length co130)) (fun _ hk => hk.2) (.int .i64 t349)) (fun _ hk => hk.2) (.int .i64 t350)) (fun _ hk => hk.1.2)⟩
     have n2_ : Aside0 ((((w129.setCell ⟨gb352, 0, none⟩ (.slice Ao130 t346.length co130)).setCell ⟨gb352, 1, none⟩ (.int .i64 t349)).setCell ⟨gb352, 2, none⟩ (.int .i64 t350)).heap[gb313]? = some (.cells #[.slice A1_0 l1_0.length c1_0, .int .i64 a1_1, .int .i64 a1_2] 29 (0, 0))) := ⟨by refine zP ?_; refine blk_far ?_ NB313_352.1 _; refine zP ?_; refine blk_far ?_ NB313_352.1 _; refine zP ?_; refine blk_far ?_ NB313_352.1 _; refine zP ?_; exact BK313.1⟩
     have n3_ : Aside0 ((((w129.setCell ⟨gb352, 0, none⟩ (.slice Ao130 t346.length co130)).setCell ⟨gb352, 1, none⟩ (.int .i64 t349)).setCell ⟨gb352, 2, none⟩ (.int .i64 t350)).heap[gb314]? = some (.cells #[.slice none 0 0, .int .i64 0, .int .i64 0] 29 (0, 0))) := ⟨by refine zP ?_; refine blk_far ?_ NB314_352.1 _; refine zP ?_; refine blk_far ?_ NB314_352.1 _; refine zP ?_; refine blk_far ?_ NB314_352.1 _; refine zP ?_; exact BK314.1⟩
     have n4_ : Aside0 ((((w129.setCell ⟨gb352, 0, none⟩ (.slice Ao130 t346.length co130)).setCell ⟨gb352, 1, none⟩ (.int .i64 t349)).setCell ⟨gb352, 2, none⟩ (.int .i64 t350)).heap[gb335]? = some (.cells #[.int .i64 t329, .int .i64 t330, .int .i64 t331, .int .i64 t332, .int .i64 t333] 59 (0, 0))) := ⟨by refine zP ?_; refine blk_far ?_ NB335_352.1 _; refine zP ?_; refine blk_far ?_ NB335_352.1 _; refine zP ?_; refine blk_far ?_ NB335_352.1 _; refine zP ?_; exact BK335.1⟩
     have n5_ : Aside0 ((((w129.setCell ⟨gb352, 0, none⟩ (.slice Ao130 t346.length co130)).setCell ⟨gb352, 1, none⟩ (.int .i64 t349)).setCell ⟨gb352, 2, none⟩ (.int .i64 t350)).heap[gb352]? = some (.cells #[.slice Ao130 t346.length co130, .int .i64 t349, .int .i64 t350] 29 (0, 0))) := ⟨by exact zp3 (zK BK352.1)⟩
     have n6_ : Aside0 (Below w.heap.size w (((w129.setCell ⟨gb352, 0, none⟩ (.slice Ao130 t346.length co130)).setCell ⟨gb352, 1, none⟩ (.int .i64 t349)).setCell ⟨gb352, 2, none⟩ (.int .i64 t350))) := ⟨zB43⟩
     (try clear HO_6)
     (try clear HO348)
     (try clear BK313)
     (try clear BK314)
     (try clear BK335)
     (try clear BK352)
     (try clear HB)
     generalize (((w129.setCell ⟨gb352, 0, none⟩ (.slice Ao130 t346.length co130)).setCell ⟨gb352, 1, none⟩ (.int .i64 t349)).setCell ⟨gb352, 2, none⟩ (.int .i64 t350)) = w135 at n0_ n1_ n2_ n3_ n4_ n5_ n6_ ⊢
     have HO_6 := n0_
     have HO348 := n1_
     have BK313 := n2_
     have BK314 := n3_
     have BK335 := n4_
     have BK352 := n5_
     have HB := n6_
     clear n0_ n1_ n2_ n3_ n4_ n5_ n6_
     replace HO_6 := zM (Kd.R_drew HO_6.1)
     replace HO348 := zM (Kd.R_drew HO348.1)
     replace BK313 := zM (blk_drew BK313.1)
     replace BK314 := zM (blk_drew BK314.1)
     replace BK335 := zM (blk_drew BK335.1)
     replace BK352 := zM (blk_drew BK352.1)
     replace HB := zM (below_drew1 HB.1)
     refine start_ (n := 4) (S := fun w' => w'.cell? ⟨gb352, 0, none⟩ = some (.slice Ao130 t346.length co130) ∧ w'.cell? ⟨gb352, 1, none⟩ = some (.int .i64 t349) ∧ w'.cell? ⟨gb352, 2, none⟩ = some (.int .i64 t350)) (ds := []) #[false, false, false, false] (by kernel_rfl) rfl rfl ⟨(blk_cell BK352.1 0).trans rfl, (blk_cell BK352.1 1).trans rfl, (blk_cell BK352.1 2).trans rfl⟩ (fun hHeld => ?_)
     generalize w135.drew = w136 at HO_6 HO348 BK313 BK314 BK335 BK352 HB hHeld ⊢
     refine pure_ (i := 0) (N := some 64) (v := ?_) (a' := ?_) #[true, false, false, false] rfl rfl (by kernel_rfl) (fun _ _ _ h => h) (Or.inl ⟨by rfl, ?_⟩) ?_ ?_
     rotate_left
     ·intro w'
      go_simp
      with_reducible rfl
     rotate_left
     ·exact zV
     refine pure_ (i := 2) (N := some 4) (v := ?_) (a' := ?_) #[true, false, true, false] rfl rfl (by kernel_rfl) (fun _ _ _ h => h) (Or.inl ⟨by rfl, ?_⟩) ?_ ?_
     rotate_left
     ·intro w'
      go_simp
      with_reducible rfl
     rotate_left
     ·exact zV
     refine take_ (i := 1) (N := some 65) (v := ?_) (a' := ?_) #[true, true, true, false] rfl rfl (by kernel_rfl) (fun _ _ _ h => h) (Or.inl ⟨by rfl, ?_⟩) hHeld ?_ ?_
     rotate_left
     ·rintro w' ⟨s0, s1, s2⟩
      go_simp
      with_reducible rfl
     rotate_left
     ·exact zV
     refine one_ (i := 3) (N := none) #[true, true, true, true] rfl rfl (by kernel_rfl) (by decide) (fun K hK => ?_)
     have hs137 : w136.cell? ⟨gb314, 0, none⟩ = some (.slice none 0 0) := (blk_cell BK314.1 0).trans rfl
     have hfs137 := blk_frozen BK314.1 0
     have hns137_0 := NB313_314.1
     have hns137_2 := NB335_314.1
     have hns137_3 := NB352_314.1
     have hms137_0 := NB314_313.1
     have hms137_2 := NB314_335.1
     have hms137_3 := NB314_352.1
     have hs138 : w136.cell? ⟨gb314, 1, none⟩ = some (.int .i64 0) := (blk_cell BK314.1 1).trans rfl
     have hfs138 := blk_frozen BK314.1 1
     have hns138_0 := NB313_314.1
     have hns138_2 := NB335_314.1
     have hns138_3 := NB352_314.1
     have hms138_0 := NB314_313.1
     have hms138_2 := NB314_335.1
     have hms138_3 := NB314_352.1
     have hs139 : w136.cell? ⟨gb314, 2, none⟩ = some (.int .i64 0) := (blk_cell BK314.1 2).trans rfl
     have hfs139 := blk_frozen BK314.1 2
     have hns139_0 := NB313_314.1
     have hns139_2 := NB335_314.1
     have hns139_3 := NB352_314.1
     have hms139_0 := NB314_313.1
     have hms139_2 := NB314_335.1
     have hms139_3 := NB314_352.1
     refine skip_ (w1 := ?_) (by rfl) rfl ?_ ?_
     rotate_left
     ·go_simp
      rfl
     refine hK.out _ _ ⟨((cell_far (p := ⟨gb314, _, none⟩) NB352_314.1 _).trans (((cell_far (p := ⟨gb314, _, none⟩) NB352_314.1 _).trans (((cell_far (p := ⟨gb314, _, none⟩) NB352_314.1 _).trans (hHeld.1)))))), ((cell_far (p := ⟨gb314, _, none⟩) NB352_314.1 _).trans (((cell_far (p := ⟨gb314, _, none⟩) NB352_314.1 _).trans (((cell_far (p := ⟨gb314, _, none⟩) NB352_314.1 _).trans (hHeld.2.1)))))), ((cell_far (p := ⟨gb314, _, none⟩) NB352_314.1 _).trans (((cell_far (p := ⟨gb314, _, none⟩) NB352_314.1 _).trans (((cell_far (p := ⟨gb314, _, none⟩) NB352_314.1 _).trans (hHeld.2.2))))))⟩ (fun hHeld => ?_)
     clear hK K
     refine done_ (by kernel_rfl) ?_
     try go_wp2
     refine bodyPost_ret (results_tc rfl _ _ gb314 29 #[.slice Ao130 t346.length co130, .int .i64 t349, .int .i64 t350] (0, 0) _ rfl (by exact zp3 (zK BK314.1)) Try.underlying29 rfl (by kernel_rfl)) rfl ?_
     exact ⟨_, _, zE, by refine zrR ?_; exact Kd.R_mono (Kd.R_far (p := ⟨gb314, 2, none⟩) (Kd.R_far (p := ⟨gb314, 1, none⟩) (Kd.R_far (p := ⟨gb314, 0, none⟩) (Kd.R_types HO_6.1 BK314.1 (by decide)) (fun _ hk => hk.2) (.slice Ao130 t346.length co130)) (fun _ hk => hk.2) (.int .i64 t349)) (fun _ hk => hk.2) (.int .i64 t350)) (fun _ hk => hk.1), by refine zrR ?_; exact Kd.R_mono (Kd.R_far (p := ⟨gb314, 2, none⟩) (Kd.R_far (p := ⟨gb314, 1, none⟩) (Kd.R_far (p := ⟨gb314, 0, none⟩) (Kd.R_types HO348.1 BK314.1 (by decide)) (fun _ hk => hk.2) (.slice Ao130 t346.length co130)) (fun _ hk => hk.2) (.int .i64 t349)) (fun _ hk => hk.2) (.int .i64 t350)) (fun _ hk => hk.1), zB43⟩
    rw [if_pos c88] at H
    have c88b0 := decide_eq_true c88
    clear c88
    by_cases c89 : 0 ≤ t336
    rotate_left
    ·rw [if_neg c89] at H
     exact absurd H (by simp)
    rw [if_pos c89] at H
    have c89b0 := decide_eq_true c89
    clear c89
    by_cases c90 : t336 < (y318.length : Int)
    rotate_left
    ·rw [if_neg c90] at H
     exact absurd H (by simp)
    rw [if_pos c90] at H
    have c90b0 := decide_eq_true c90
    clear c90
    obtain ⟨y353, hy353⟩ : ∃ y_ : List Int, y_ = (y318.set (t336 : Int).toNat t351) := ⟨_, rfl⟩
    replace H : (some (y353, t346, t349, t350)) = some (r1, r2, r3, r4) := by first | (rw [hy353]; with_reducible exact H) | (have H2_ := (Option.bind_some _ _).symm.trans H; rw [hy353]; with_reducible exact H2_) | (have H2_ := (Option.bind_some _ _).symm.trans H; with_reducible exact H2_) | with_reducible exact H | (rw [hy353]; exact H) | exact H
    have Ny353 := zM hy353
    clear hy353
    simp only [Option.some.injEq, Prod.mk.injEq] at H
    obtain ⟨rfl, rfl, rfl, rfl⟩ := H
    have hnb92 := NB313_314.1
    have hnc92 := NB314_313.1
    have hcz93 := zc_3 (w := wc) BK313.1
    have p328 : 0 ≤ (a1_1 : Int) := zA
    have q328 : a1_1 < (l0.length : Int) := zA
    obtain ⟨ad328, e328, hx328_0⟩ := Kd.at_int HR0.1 a1_1 p328 q328
    cases e328
    replace hx328_0 := (HB.1.cell (World.block_lt_of_cell? w _ hx328_0)).trans hx328_0
    replace p328 := eq_true p328
    replace q328 := eq_true q328
    try go_wp2_with (first | ((with_reducible refine gate_callee (f := 105) rfl ?_); refine goesL_ (some 38) rfl rfl Try.func105 (by kernel_rfl) rfl #[.int .i64 (rd l0 a1_1)] rfl zT ?_; (with_reducible refine (spec_Decode.calls (rd l0 a1_1) t329 t330 t331 t332 t333 t334 _ A30.1).mono ?_); rintro e w94 ⟨rfl, hb⟩; refine ⟨_, rfl, ?_⟩; replace HO_6 := zM (Kd.R_below (zR HO_6.1) hb); replace BK313 := zM (zb BK313.1 hb); replace BK314 := zM (zb BK314.1 hb); replace HB := zM (below_step zB40 hb); clear hb) | ((with_reducible refine gate_dst (N := 7) rfl ?_); refine box_event ?hg (N := 7) ?hd (cs := #[.int .i64 0, .int .i64 0, .int .i64 0, .int .i64 0, .int .i64 0]) (t := 59) ?hr ?_; (case hd => rfl); (case hg => rfl); (case hr => exact zHH); intro gb335 hg w95 hbox hb; replace HO_6 := zM (Kd.R_below (zR HO_6.1) hb); have BK335 := zM hbox; have GW335 := zM (zW hg (below_size zB40)); have GE335 := zM (zW hg (below_size zB40)); replace HB := zM (below_step zB40 hb); have NB313_335 := zM ((zn BK313.1 hg : gb313 ≠ gb335)); have NB335_313 := zM ((zm BK313.1 hg : gb335 ≠ gb313)); replace BK313 := zM (zb BK313.1 hb); have NB314_335 := zM ((zn BK314.1 hg : gb314 ≠ gb335)); have NB335_314 := zM ((zm BK314.1 hg : gb335 ≠ gb314)); replace BK314 := zM (zb BK314.1 hb); clear hb hbox hg; have hnb96 := NB335_313.1; have hnc96 := NB313_335.1; have hnb97 := NB335_314.1; have hnc97 := NB314_335.1; have hcz98 := zc_5 (w := w95) BK335.1; have hcz99 := zc_3 (w := w95) BK313.1) | ((with_reducible refine gate_callee (f := 106) rfl ?_); refine goesL_ (some 44) rfl rfl Try.func106 (by kernel_rfl) rfl #[.agg #[.int .i64 t329, .int .i64 t330, .int .i64 t331, .int .i64 t332, .int .i64 t333], .slice A1_0 l1_0.length c1_0] rfl zT ?_; (with_reducible refine (spec_Target.calls t329 t330 t331 t332 t333 _ _ l1_0 t336 _ ?side1 ?side2 A31.1).mono ?_); (case side1 => exact Kd.C_below HR1_0.1 zB41); (case side2 => exact HC1_0.1); rintro e w100 ⟨rfl, hb⟩; refine ⟨_, rfl, ?_⟩; replace HO_6 := zM (Kd.R_below (by refine zrR ?_; exact (Kd.R_mono (Kd.R_far (p := ⟨gb335, 4, none⟩) (Kd.R_far (p := ⟨gb335, 3, none⟩) (Kd.R_far (p := ⟨gb335, 2, none⟩) (Kd.R_far (p := ⟨gb335, 1, none⟩) (Kd.R_far (p := ⟨gb335, 0, none⟩) (Kd.R_types HO_6.1 BK335.1 (by decide)) (fun _ hk => hk.2) (.int .i64 t329)) (fun _ hk => hk.2) (.int .i64 t330)) (fun _ hk => hk.2) (.int .i64 t331)) (fun _ hk => hk.2) (.int .i64 t332)) (fun _ hk => hk.2) (.int .i64 t333)) (fun _ h_ => h_.1))) hb); replace BK313 := zM (zf BK313.1 hb); replace BK314 := zM (zf BK314.1 hb); replace BK335 := zM (blk_below (g := gb335) (o := .cells #[.int .i64 t329, .int .i64 t330, .int .i64 t331, .int .i64 t332, .int .i64 t333] 59 (0, 0)) (by exact zp5 (zK BK335.1)) hb); replace HB := zM (below_step zB41 hb); clear hb; have hcz101 := zc_3 (w := w100) BK313.1; have hcz102 := zc_5 (w := w100) BK335.1) | ((with_reducible refine gate_callee (f := 107) rfl ?_); refine goesL_ (some 55) rfl rfl Try.func107 (by kernel_rfl) rfl #[.agg #[.slice A1_0 l1_0.length c1_0, .int .i64 a1_1, .int .i64 a1_2], .agg #[.int .i64 t329, .int .i64 t330, .int .i64 t331, .int .i64 t332, .int .i64 t333], .int .i64 0] rfl zT ?_; (with_reducible refine (spec_Work.calls kj3 _ _ l1_0 a1_1 a1_2 t329 t330 t331 t332 t333 0 t346 t349 t350 t351 _ ?side1 ?side2 A87.1).mono ?_); (case side1 => exact zC (Kd.C_below HR1_0.1 HB.1)); (case side2 => exact HC1_0.1); rintro e w103 ⟨v347, rfl, ho0, hb⟩; refine ⟨_, rfl, ?_⟩; have HO348 := zM (Kd.R_lower (Kd.R_new' ho0 (Kd.R_lt (zR HO_6.1))) (below_size zB41)); replace HO_6 := zM (Kd.R_elder' (zR HO_6.1) (Kd.R_base ho0) hb); replace BK313 := zM (zb BK313.1 hb); replace BK314 := zM (zb BK314.1 hb); replace BK335 := zM (zb BK335.1 hb); replace HB := zM (below_step zB41 hb); clear hb ho0) | ((with_reducible refine gate_dst (N := 11) rfl ?_); refine box_event ?hg (N := 11) ?hd (cs := #[.slice none 0 0, .int .i64 0, .int .i64 0]) (t := 29) ?hr ?_; (case hd => rfl); (case hg => rfl); (case hr => exact zHH); intro gb352 hg w104 hbox hb; replace HO_6 := zM (Kd.R_below (zR HO_6.1) hb); replace HO348 := zM (Kd.R_below (zR HO348.1) hb); have BK352 := zM hbox; have GW352 := zM (zW hg (below_size zB41)); have GE352 := zM (zW hg (below_size zB41)); replace HB := zM (below_step zB41 hb); have NB313_352 := zM ((zn BK313.1 hg : gb313 ≠ gb352)); have NB352_313 := zM ((zm BK313.1 hg : gb352 ≠ gb313)); replace BK313 := zM (zb BK313.1 hb); have NB314_352 := zM ((zn BK314.1 hg : gb314 ≠ gb352)); have NB352_314 := zM ((zm BK314.1 hg : gb352 ≠ gb314)); replace BK314 := zM (zb BK314.1 hb); have NB335_352 := zM ((zn BK335.1 hg : gb335 ≠ gb352)); have NB352_335 := zM ((zm BK335.1 hg : gb352 ≠ gb335)); replace BK335 := zM (zb BK335.1 hb); clear hb hbox hg; obtain ⟨Ao105, co105, eo105⟩ := Kd.R_slice HO348.1; subst eo105; have hnb106 := NB352_313.1; have hnc106 := NB313_352.1; have hnb107 := NB352_314.1; have hnc107 := NB314_352.1; have hnb108 := NB352_335.1; have hnc108 := NB335_352.1; have hcz109 := zc_3 (w := w104) BK352.1) | ((with_reducible refine gate_store (t := 29) (p := 11) rfl ?_); refine store_event (t := 29) (p := 11) (v := ?vo_w110) (w1 := (((w104.setCell ⟨gb352, 0, none⟩ (.slice Ao105 t346.length co105)).setCell ⟨gb352, 1, none⟩ (.int .i64 t349)).setCell ⟨gb352, 2, none⟩ (.int .i64 t350))) ?hg ?ho ?hn ?hr ?_; (case ho => rfl); (case hg => rfl); (case hn => rfl); (case hr => exact zHH); intro w110 hw; have n0_ : Aside0 (Kd.R (Kd.int .i64) 3 w110 w.heap.size (fun k_ => some k_ ≠ (.slice Ao105 t346.length co105 : Value).ownBlock) v319 y318) := ⟨(by rw [hw]; exact (by refine zrR ?_; exact Kd.R_mono (Kd.R_far (p := ⟨gb352, 2, none⟩) (Kd.R_far (p := ⟨gb352, 1, none⟩) (Kd.R_far (p := ⟨gb352, 0, none⟩) (Kd.R_types HO_6.1 BK352.1 (by decide)) (fun _ hk => hk.2) (.slice Ao105 t346.length co105)) (fun _ hk => hk.2) (.int .i64 t349)) (fun _ hk => hk.2) (.int .i64 t350)) (fun _ hk => hk.1.2)))⟩; have n1_ : Aside0 (Kd.R (Kd.int .i64) 3 w110 w.heap.size (fun k_ => some k_ ≠ (v319 : Value).ownBlock) (.slice Ao105 t346.length co105) t346) := ⟨(by rw [hw]; exact (by refine zrR ?_; exact Kd.R_mono (Kd.R_far (p := ⟨gb352, 2, none⟩) (Kd.R_far (p := ⟨gb352, 1, none⟩) (Kd.R_far (p := ⟨gb352, 0, none⟩) (Kd.R_types HO348.1 BK352.1 (by decide)) (fun _ hk => hk.2) (.slice Ao105 t346.length co105)) (fun _ hk => hk.2) (.int .i64 t349)) (fun _ hk => hk.2) (.int .i64 t350)) (fun _ hk => hk.1.2)))⟩; have n2_ : Aside0 (w110.heap[gb313]? = some (.cells #[.slice A1_0 l1_0.length c1_0, .int .i64 a1_1, .int .i64 a1_2] 29 (0, 0))) := ⟨(by rw [hw]; exact (by refine zP ?_; refine blk_far ?_ NB313_352.1 _; refine zP ?_; refine blk_far ?_ NB313_352.1 _; refine zP ?_; refine blk_far ?_ NB313_352.1 _; refine zP ?_; exact BK313.1))⟩; have n3_ : Aside0 (w110.heap[gb314]? = some (.cells #[.slice none 0 0, .int .i64 0, .int .i64 0] 29 (0, 0))) := ⟨(by rw [hw]; exact (by refine zP ?_; refine blk_far ?_ NB314_352.1 _; refine zP ?_; refine blk_far ?_ NB314_352.1 _; refine zP ?_; refine blk_far ?_ NB314_352.1 _; refine zP ?_; exact BK314.1))⟩; have n4_ : Aside0 (w110.heap[gb335]? = some (.cells #[.int .i64 t329, .int .i64 t330, .int .i64 t331, .int .i64 t332, .int .i64 t333] 59 (0, 0))) := ⟨(by rw [hw]; exact (by refine zP ?_; refine blk_far ?_ NB335_352.1 _; refine zP ?_; refine blk_far ?_ NB335_352.1 _; refine zP ?_; refine blk_far ?_ NB335_352.1 _; refine zP ?_; exact BK335.1))⟩; have n5_ : Aside0 (w110.heap[gb352]? = some (.cells #[.slice Ao105 t346.length co105, .int .i64 t349, .int .i64 t350] 29 (0, 0))) := ⟨(by rw [hw]; exact (by exact zp3 (zK BK352.1)))⟩; have n6_ : Aside0 (Below w.heap.size w w110) := ⟨(by rw [hw]; exact zB43)⟩; clear hw; clear HO_6; clear HO348; clear BK313; clear BK314; clear BK335; clear BK352; clear HB; have HO_6 := n0_; have HO348 := n1_; have BK313 := n2_; have BK314 := n3_; have BK335 := n4_; have BK352 := n5_; have HB := n6_; clear n0_ n1_ n2_ n3_ n4_ n5_ n6_; have p91 : 0 ≤ (t336 : Int) := zA; have q91 : (t336 : Int) < ((y318.length : Int) : Int) := zA; obtain ⟨go91, co91, eo91, gb91, gl91, cl91, HG91⟩ := Kd.R_form HO_6.1 (by omega); (first | cases eo91 | (injection eo91 with ea_ en_ ec_; (first | subst ea_ | (injection ea_ with ea_; subst ea_)); subst ec_; clear en_)); have GB91 := zM gb91; have GG91 := zM HG91; clear gb91 gl91 HG91; obtain ⟨hx91_0, hf91_0⟩ := Kd.R_celln 0 HO_6.1 (t336 : Int) p91 q91; replace p91 := eq_true p91; replace q91 := eq_true q91; obtain ⟨hy111_, hz111_⟩ := Kd.R_celln 0 HO_6.1 (t336 : Int) zA zA; have HP111 := Kd.R_putg HO_6.1 (t336 : Int) t351) | ((with_reducible refine gate_store (t := 3) (p := 63) rfl ?_); refine store_event (t := 3) (p := 63) (v := ?vo_w112) (w1 := (w110.setCell ⟨go91, (t336 : Int).toNat, none⟩ (.int .i64 t351))) ?hg ?ho ?hn ?hr ?_; (case ho => rfl); (case hg => rfl); (case hn => rfl); (case hr => exact zHH); intro w112 hw; have hg : w110.grownBy w112 (some go91) := (by rw [hw]; exact HP111.2); have hp_ : Kd.R (Kd.int .i64) 3 w112 w.heap.size (fun k_ => some k_ ≠ (.slice Ao105 t346.length co105 : Value).ownBlock) (.slice (some ⟨go91, 0, none⟩) y318.length co91) y353 := (by rw [hw, Ny353.1]; exact HP111.1); clear HP111; replace BK313 := zM (zg BK313.1 hg (Kd.R_ne HO_6.1 BK313.1 (by decide))); replace BK314 := zM (zg BK314.1 hg (Kd.R_ne HO_6.1 BK314.1 (by decide))); replace BK335 := zM (zg BK335.1 hg (Kd.R_ne HO_6.1 BK335.1 (by decide))); replace HO348 := zM (Kd.R_after (v := (.slice (some ⟨go91, 0, none⟩) y318.length co91)) (v1 := (.slice (some ⟨go91, 0, none⟩) y318.length co91)) (ok := (fun _ => True)) (by refine zrR ?_; exact Kd.R_mono HO348.1 (fun _ hk => ⟨trivial, hk⟩)) hg (.inl rfl)); replace BK352 := zM (zg BK352.1 hg (Kd.R_ne HO_6.1 BK352.1 (by decide))); replace HO_6 := zM hp_; replace HB := zM ((by rw [hw]; exact below_set (HB.1) GB91.1 : Below w.heap.size w w112)); clear hg hw hp_))
    replace HO_6 := zM (Kd.R_drew HO_6.1)
    replace HO348 := zM (Kd.R_drew HO348.1)
    replace BK313 := zM (blk_drew BK313.1)
    replace BK314 := zM (blk_drew BK314.1)
    replace BK335 := zM (blk_drew BK335.1)
    replace BK352 := zM (blk_drew BK352.1)
    replace HB := zM (below_drew1 HB.1)
    refine start_ (n := 4) (S := fun w' => w'.cell? ⟨gb352, 0, none⟩ = some (.slice Ao105 t346.length co105) ∧ w'.cell? ⟨gb352, 1, none⟩ = some (.int .i64 t349) ∧ w'.cell? ⟨gb352, 2, none⟩ = some (.int .i64 t350)) (ds := []) #[false, false, false, false] (by kernel_rfl) rfl rfl ⟨(blk_cell BK352.1 0).trans rfl, (blk_cell BK352.1 1).trans rfl, (blk_cell BK352.1 2).trans rfl⟩ (fun hHeld => ?_)
    generalize w112.drew = w113 at HO_6 HO348 BK313 BK314 BK335 BK352 HB hHeld ⊢
    refine pure_ (i := 0) (N := some 64) (v := ?_) (a' := ?_) #[true, false, false, false] rfl rfl (by kernel_rfl) (fun _ _ _ h => h) (Or.inl ⟨by rfl, ?_⟩) ?_ ?_
    rotate_left
    ·intro w'
     go_simp
     with_reducible rfl
    rotate_left
    ·exact zV
    refine pure_ (i := 2) (N := some 4) (v := ?_) (a' := ?_) #[true, false, true, false] rfl rfl (by kernel_rfl) (fun _ _ _ h => h) (Or.inl ⟨by rfl, ?_⟩) ?_ ?_
    rotate_left
    ·intro w'
     go_simp
     with_reducible rfl
    rotate_left
    ·exact zV
    refine take_ (i := 1) (N := some 65) (v := ?_) (a' := ?_) #[true, true, true, false] rfl rfl (by kernel_rfl) (fun _ _ _ h => h) (Or.inl ⟨by rfl, ?_⟩) hHeld ?_ ?_
    rotate_left
    ·rintro w' ⟨s0, s1, s2⟩
     go_simp
     with_reducible rfl
    rotate_left
    ·exact zV
    refine one_ (i := 3) (N := none) #[true, true, true, true] rfl rfl (by kernel_rfl) (by decide) (fun K hK => ?_)
    have hs114 : w113.cell? ⟨gb314, 0, none⟩ = some (.slice none 0 0) := (blk_cell BK314.1 0).trans rfl
    have hfs114 := blk_frozen BK314.1 0
    have hns114_0 := NB313_314.1
    have hns114_2 := NB335_314.1
    have hns114_3 := NB352_314.1
    have hms114_0 := NB314_313.1
    have hms114_2 := NB314_335.1
    have hms114_3 := NB314_352.1
    have hs115 : w113.cell? ⟨gb314, 1, none⟩ = some (.int .i64 0) := (blk_cell BK314.1 1).trans rfl
    have hfs115 := blk_frozen BK314.1 1
    have hns115_0 := NB313_314.1
    have hns115_2 := NB335_314.1
    have hns115_3 := NB352_314.1
    have hms115_0 := NB314_313.1
    have hms115_2 := NB314_335.1
    have hms115_3 := NB314_352.1
    have hs116 : w113.cell? ⟨gb314, 2, none⟩ = some (.int .i64 0) := (blk_cell BK314.1 2).trans rfl
    have hfs116 := blk_frozen BK314.1 2
    have hns116_0 := NB313_314.1
    have hns116_2 := NB335_314.1
    have hns116_3 := NB352_314.1
    have hms116_0 := NB314_313.1
    have hms116_2 := NB314_335.1
    have hms116_3 := NB314_352.1
    refine skip_ (w1 := ?_) (by rfl) rfl ?_ ?_
    rotate_left
    ·go_simp
     rfl
    refine hK.out _ _ ⟨((cell_far (p := ⟨gb314, _, none⟩) NB352_314.1 _).trans (((cell_far (p := ⟨gb314, _, none⟩) NB352_314.1 _).trans (((cell_far (p := ⟨gb314, _, none⟩) NB352_314.1 _).trans (hHeld.1)))))), ((cell_far (p := ⟨gb314, _, none⟩) NB352_314.1 _).trans (((cell_far (p := ⟨gb314, _, none⟩) NB352_314.1 _).trans (((cell_far (p := ⟨gb314, _, none⟩) NB352_314.1 _).trans (hHeld.2.1)))))), ((cell_far (p := ⟨gb314, _, none⟩) NB352_314.1 _).trans (((cell_far (p := ⟨gb314, _, none⟩) NB352_314.1 _).trans (((cell_far (p := ⟨gb314, _, none⟩) NB352_314.1 _).trans (hHeld.2.2))))))⟩ (fun hHeld => ?_)
    clear hK K
    refine done_ (by kernel_rfl) ?_
    try go_wp2
    refine bodyPost_ret (results_tc rfl _ _ gb314 29 #[.slice Ao105 t346.length co105, .int .i64 t349, .int .i64 t350] (0, 0) _ rfl (by exact zp3 (zK BK314.1)) Try.underlying29 rfl (by kernel_rfl)) rfl ?_
    exact ⟨_, _, zE, by refine zrR ?_; exact Kd.R_mono (Kd.R_far (p := ⟨gb314, 2, none⟩) (Kd.R_far (p := ⟨gb314, 1, none⟩) (Kd.R_far (p := ⟨gb314, 0, none⟩) (Kd.R_types HO_6.1 BK314.1 (by decide)) (fun _ hk => hk.2) (.slice Ao105 t346.length co105)) (fun _ hk => hk.2) (.int .i64 t349)) (fun _ hk => hk.2) (.int .i64 t350)) (fun _ hk => hk.1), by refine zrR ?_; exact Kd.R_mono (Kd.R_far (p := ⟨gb314, 2, none⟩) (Kd.R_far (p := ⟨gb314, 1, none⟩) (Kd.R_far (p := ⟨gb314, 0, none⟩) (Kd.R_types HO348.1 BK314.1 (by decide)) (fun _ hk => hk.2) (.slice Ao105 t346.length co105)) (fun _ hk => hk.2) (.int .i64 t349)) (fun _ hk => hk.2) (.int .i64 t350)) (fun _ hk => hk.1.2), zB43⟩
   rw [if_pos c32] at H
   have c32b0 := decide_eq_true c32
   clear c32
   by_cases c33 : 0 ≤ t336
   rotate_left
   ·rw [if_neg c33] at H
    exact absurd H (by simp)
   rw [if_pos c33] at H
   have c33b0 := decide_eq_true c33
   clear c33
   by_cases c34 : t336 < (l0.length : Int)
   rotate_left
   ·rw [if_neg c34] at H
    exact absurd H (by simp)
   rw [if_pos c34] at H
   have c34b0 := decide_eq_true c34
   clear c34
   replace H := zO H
   obtain ⟨⟨t338, t341, t342, t343⟩, A35, H⟩ := H
   try dsimp only at H
   by_cases c36 : t343 ≥ 0
   rotate_left
   ·rw [if_neg c36] at H
    have c36b0 := decide_eq_false c36
    clear c36
    simp only [Option.some.injEq, Prod.mk.injEq] at H
    obtain ⟨rfl, rfl, rfl, rfl⟩ := H
    have hnb64 := NB313_314.1
    have hnc64 := NB314_313.1
    have hcz65 := zc_3 (w := wc) BK313.1
    have p328 : 0 ≤ (a1_1 : Int) := zA
    have q328 : a1_1 < (l0.length : Int) := zA
    obtain ⟨ad328, e328, hx328_0⟩ := Kd.at_int HR0.1 a1_1 p328 q328
    cases e328
    replace hx328_0 := (HB.1.cell (World.block_lt_of_cell? w _ hx328_0)).trans hx328_0
    replace p328 := eq_true p328
    replace q328 := eq_true q328
    try go_wp2_with (first | ((with_reducible refine gate_callee (f := 105) rfl ?_); refine goesL_ (some 38) rfl rfl Try.func105 (by kernel_rfl) rfl #[.int .i64 (rd l0 a1_1)] rfl zT ?_; (with_reducible refine (spec_Decode.calls (rd l0 a1_1) t329 t330 t331 t332 t333 t334 _ A30.1).mono ?_); rintro e w66 ⟨rfl, hb⟩; refine ⟨_, rfl, ?_⟩; replace HO_6 := zM (Kd.R_below (zR HO_6.1) hb); replace BK313 := zM (zb BK313.1 hb); replace BK314 := zM (zb BK314.1 hb); replace HB := zM (below_step zB40 hb); clear hb) | ((with_reducible refine gate_dst (N := 7) rfl ?_); refine box_event ?hg (N := 7) ?hd (cs := #[.int .i64 0, .int .i64 0, .int .i64 0, .int .i64 0, .int .i64 0]) (t := 59) ?hr ?_; (case hd => rfl); (case hg => rfl); (case hr => exact zHH); intro gb335 hg w67 hbox hb; replace HO_6 := zM (Kd.R_below (zR HO_6.1) hb); have BK335 := zM hbox; have GW335 := zM (zW hg (below_size zB40)); have GE335 := zM (zW hg (below_size zB40)); replace HB := zM (below_step zB40 hb); have NB313_335 := zM ((zn BK313.1 hg : gb313 ≠ gb335)); have NB335_313 := zM ((zm BK313.1 hg : gb335 ≠ gb313)); replace BK313 := zM (zb BK313.1 hb); have NB314_335 := zM ((zn BK314.1 hg : gb314 ≠ gb335)); have NB335_314 := zM ((zm BK314.1 hg : gb335 ≠ gb314)); replace BK314 := zM (zb BK314.1 hb); clear hb hbox hg; have hnb68 := NB335_313.1; have hnc68 := NB313_335.1; have hnb69 := NB335_314.1; have hnc69 := NB314_335.1; have hcz70 := zc_5 (w := w67) BK335.1; have hcz71 := zc_3 (w := w67) BK313.1) | ((with_reducible refine gate_callee (f := 106) rfl ?_); refine goesL_ (some 44) rfl rfl Try.func106 (by kernel_rfl) rfl #[.agg #[.int .i64 t329, .int .i64 t330, .int .i64 t331, .int .i64 t332, .int .i64 t333], .slice A1_0 l1_0.length c1_0] rfl zT ?_; (with_reducible refine (spec_Target.calls t329 t330 t331 t332 t333 _ _ l1_0 t336 _ ?side1 ?side2 A31.1).mono ?_); (case side1 => exact Kd.C_below HR1_0.1 zB41); (case side2 => exact HC1_0.1); rintro e w72 ⟨rfl, hb⟩; refine ⟨_, rfl, ?_⟩; replace HO_6 := zM (Kd.R_below (by refine zrR ?_; exact (Kd.R_mono (Kd.R_far (p := ⟨gb335, 4, none⟩) (Kd.R_far (p := ⟨gb335, 3, none⟩) (Kd.R_far (p := ⟨gb335, 2, none⟩) (Kd.R_far (p := ⟨gb335, 1, none⟩) (Kd.R_far (p := ⟨gb335, 0, none⟩) (Kd.R_types HO_6.1 BK335.1 (by decide)) (fun _ hk => hk.2) (.int .i64 t329)) (fun _ hk => hk.2) (.int .i64 t330)) (fun _ hk => hk.2) (.int .i64 t331)) (fun _ hk => hk.2) (.int .i64 t332)) (fun _ hk => hk.2) (.int .i64 t333)) (fun _ h_ => h_.1))) hb); replace BK313 := zM (zf BK313.1 hb); replace BK314 := zM (zf BK314.1 hb); replace BK335 := zM (blk_below (g := gb335) (o := .cells #[.int .i64 t329, .int .i64 t330, .int .i64 t331, .int .i64 t332, .int .i64 t333] 59 (0, 0)) (by exact zp5 (zK BK335.1)) hb); replace HB := zM (below_step zB41 hb); clear hb; have p337 : 0 ≤ (t336 : Int) := zA; have q337 : t336 < (l0.length : Int) := zA; obtain ⟨ad337, e337, hx337_0⟩ := Kd.at_int HR0.1 t336 p337 q337; obtain rfl : ad328 = ad337 := (by injection e337); replace hx337_0 := (HB.1.cell (World.block_lt_of_cell? w _ hx337_0)).trans hx337_0; replace p337 := eq_true p337; replace q337 := eq_true q337; have hcz73 := zc_3 (w := w72) BK313.1; have hcz74 := zc_5 (w := w72) BK335.1) | ((with_reducible refine gate_callee (f := 107) rfl ?_); refine goesL_ (some 55) rfl rfl Try.func107 (by kernel_rfl) rfl #[.agg #[.slice A1_0 l1_0.length c1_0, .int .i64 a1_1, .int .i64 a1_2], .agg #[.int .i64 t329, .int .i64 t330, .int .i64 t331, .int .i64 t332, .int .i64 t333], .int .i64 (rd l0 t336)] rfl zT ?_; (with_reducible refine (spec_Work.calls kj3 _ _ l1_0 a1_1 a1_2 t329 t330 t331 t332 t333 (rd l0 t336) t338 t341 t342 t343 _ ?side1 ?side2 A35.1).mono ?_); (case side1 => exact zC (Kd.C_below HR1_0.1 HB.1)); (case side2 => exact HC1_0.1); rintro e w75 ⟨v339, rfl, ho0, hb⟩; refine ⟨_, rfl, ?_⟩; have HO340 := zM (Kd.R_lower (Kd.R_new' ho0 (Kd.R_lt (zR HO_6.1))) (below_size zB41)); replace HO_6 := zM (Kd.R_elder' (zR HO_6.1) (Kd.R_base ho0) hb); replace BK313 := zM (zb BK313.1 hb); replace BK314 := zM (zb BK314.1 hb); replace BK335 := zM (zb BK335.1 hb); replace HB := zM (below_step zB41 hb); clear hb ho0) | ((with_reducible refine gate_dst (N := 11) rfl ?_); refine box_event ?hg (N := 11) ?hd (cs := #[.slice none 0 0, .int .i64 0, .int .i64 0]) (t := 29) ?hr ?_; (case hd => rfl); (case hg => rfl); (case hr => exact zHH); intro gb344 hg w76 hbox hb; replace HO_6 := zM (Kd.R_below (zR HO_6.1) hb); replace HO340 := zM (Kd.R_below (zR HO340.1) hb); have BK344 := zM hbox; have GW344 := zM (zW hg (below_size zB41)); have GE344 := zM (zW hg (below_size zB41)); replace HB := zM (below_step zB41 hb); have NB313_344 := zM ((zn BK313.1 hg : gb313 ≠ gb344)); have NB344_313 := zM ((zm BK313.1 hg : gb344 ≠ gb313)); replace BK313 := zM (zb BK313.1 hb); have NB314_344 := zM ((zn BK314.1 hg : gb314 ≠ gb344)); have NB344_314 := zM ((zm BK314.1 hg : gb344 ≠ gb314)); replace BK314 := zM (zb BK314.1 hb); have NB335_344 := zM ((zn BK335.1 hg : gb335 ≠ gb344)); have NB344_335 := zM ((zm BK335.1 hg : gb344 ≠ gb335)); replace BK335 := zM (zb BK335.1 hb); clear hb hbox hg; obtain ⟨Ao77, co77, eo77⟩ := Kd.R_slice HO340.1; subst eo77; have hnb78 := NB344_313.1; have hnc78 := NB313_344.1; have hnb79 := NB344_314.1; have hnc79 := NB314_344.1; have hnb80 := NB344_335.1; have hnc80 := NB335_344.1; have hcz81 := zc_3 (w := w76) BK344.1))
    have n0_ : Aside0 (Kd.R (Kd.int .i64) 3 (((w76.setCell ⟨gb344, 0, none⟩ (.slice Ao77 t338.length co77)).setCell ⟨gb344, 1, none⟩ (.int .i64 t341)).setCell ⟨gb344, 2, none⟩ (.int .i64 t342)) w.heap.size (fun k_ => some k_ ≠ (.slice Ao77 t338.length co77 : Value).ownBlock) v319 y318) := ⟨by refine zrR ?_; exact Kd.R_mono (Kd.R_far (p := ⟨gb344, 2, none⟩) (Kd.R_far (p := ⟨gb344, 1, none⟩) (Kd.R_far (p := ⟨gb344, 0, none⟩) (Kd.R_types HO_6.1 BK344.1 (by decide)) (fun _ hk => hk.2) (.slice Ao77 t338.length co77)) (fun _ hk => hk.2) (.int .i64 t341)) (fun _ hk => hk.2) (.int .i64 t342)) (fun _ hk => hk.1.2)⟩
    have n1_ : Aside0 (Kd.R (Kd.int .i64) 3 (((w76.setCell ⟨gb344, 0, none⟩ (.slice Ao77 t338.length co77)).setCell ⟨gb344, 1, none⟩ (.int .i64 t341)).setCell ⟨gb344, 2, none⟩ (.int .i64 t342)) w.heap.size (fun k_ => some k_ ≠ (v319 : Value).ownBlock) (.slice Ao77 t338.length co77) t338) := ⟨by refine zrR ?_; exact Kd.R_mono (Kd.R_far (p := ⟨gb344, 2, none⟩) (Kd.R_far (p := ⟨gb344, 1, none⟩) (Kd.R_far (p := ⟨gb344, 0, none⟩) (Kd.R_types HO340.1 BK344.1 (by decide)) (fun _ hk => hk.2) (.slice Ao77 t338.length co77)) (fun _ hk => hk.2) (.int .i64 t341)) (fun _ hk => hk.2) (.int .i64 t342)) (fun _ hk => hk.1.2)⟩
    have n2_ : Aside0 ((((w76.setCell ⟨gb344, 0, none⟩ (.slice Ao77 t338.length co77)).setCell ⟨gb344, 1, none⟩ (.int .i64 t341)).setCell ⟨gb344, 2, none⟩ (.int .i64 t342)).heap[gb313]? = some (.cells #[.slice A1_0 l1_0.length c1_0, .int .i64 a1_1, .int .i64 a1_2] 29 (0, 0))) := ⟨by refine zP ?_; refine blk_far ?_ NB313_344.1 _; refine zP ?_; refine blk_far ?_ NB313_344.1 _; refine zP ?_; refine blk_far ?_ NB313_344.1 _; refine zP ?_; exact BK313.1⟩
    have n3_ : Aside0 ((((w76.setCell ⟨gb344, 0, none⟩ (.slice Ao77 t338.length co77)).setCell ⟨gb344, 1, none⟩ (.int .i64 t341)).setCell ⟨gb344, 2, none⟩ (.int .i64 t342)).heap[gb314]? = some (.cells #[.slice none 0 0, .int .i64 0, .int .i64 0] 29 (0, 0))) := ⟨by refine zP ?_; refine blk_far ?_ NB314_344.1 _; refine zP ?_; refine blk_far ?_ NB314_344.1 _; refine zP ?_; refine blk_far ?_ NB314_344.1 _; refine zP ?_; exact BK314.1⟩
    have n4_ : Aside0 ((((w76.setCell ⟨gb344, 0, none⟩ (.slice Ao77 t338.length co77)).setCell ⟨gb344, 1, none⟩ (.int .i64 t341)).setCell ⟨gb344, 2, none⟩ (.int .i64 t342)).heap[gb335]? = some (.cells #[.int .i64 t329, .int .i64 t330, .int .i64 t331, .int .i64 t332, .int .i64 t333] 59 (0, 0))) := ⟨by refine zP ?_; refine blk_far ?_ NB335_344.1 _; refine zP ?_; refine blk_far ?_ NB335_344.1 _; refine zP ?_; refine blk_far ?_ NB335_344.1 _; refine zP ?_; exact BK335.1⟩
    have n5_ : Aside0 ((((w76.setCell ⟨gb344, 0, none⟩ (.slice Ao77 t338.length co77)).setCell ⟨gb344, 1, none⟩ (.int .i64 t341)).setCell ⟨gb344, 2, none⟩ (.int .i64 t342)).heap[gb344]? = some (.cells #[.slice Ao77 t338.length co77, .int .i64 t341, .int .i64 t342] 29 (0, 0))) := ⟨by exact zp3 (zK BK344.1)⟩
    have n6_ : Aside0 (Below w.heap.size w (((w76.setCell ⟨gb344, 0, none⟩ (.slice Ao77 t338.length co77)).setCell ⟨gb344, 1, none⟩ (.int .i64 t341)).setCell ⟨gb344, 2, none⟩ (.int .i64 t342))) := ⟨zB42⟩
    (try clear HO_6)
    (try clear HO340)
    (try clear BK313)
    (try clear BK314)
    (try clear BK335)
    (try clear BK344)
    (try clear HB)
    generalize (((w76.setCell ⟨gb344, 0, none⟩ (.slice Ao77 t338.length co77)).setCell ⟨gb344, 1, none⟩ (.int .i64 t341)).setCell ⟨gb344, 2, none⟩ (.int .i64 t342)) = w82 at n0_ n1_ n2_ n3_ n4_ n5_ n6_ ⊢
    have HO_6 := n0_
    have HO340 := n1_
    have BK313 := n2_
    have BK314 := n3_
    have BK335 := n4_
    have BK344 := n5_
    have HB := n6_
    clear n0_ n1_ n2_ n3_ n4_ n5_ n6_
    replace HO_6 := zM (Kd.R_drew HO_6.1)
    replace HO340 := zM (Kd.R_drew HO340.1)
    replace BK313 := zM (blk_drew BK313.1)
    replace BK314 := zM (blk_drew BK314.1)
    replace BK335 := zM (blk_drew BK335.1)
    replace BK344 := zM (blk_drew BK344.1)
    replace HB := zM (below_drew1 HB.1)
    refine start_ (n := 4) (S := fun w' => w'.cell? ⟨gb344, 0, none⟩ = some (.slice Ao77 t338.length co77) ∧ w'.cell? ⟨gb344, 1, none⟩ = some (.int .i64 t341) ∧ w'.cell? ⟨gb344, 2, none⟩ = some (.int .i64 t342)) (ds := []) #[false, false, false, false] (by kernel_rfl) rfl rfl ⟨(blk_cell BK344.1 0).trans rfl, (blk_cell BK344.1 1).trans rfl, (blk_cell BK344.1 2).trans rfl⟩ (fun hHeld => ?_)
    generalize w82.drew = w83 at HO_6 HO340 BK313 BK314 BK335 BK344 HB hHeld ⊢
    refine pure_ (i := 0) (N := some 64) (v := ?_) (a' := ?_) #[true, false, false, false] rfl rfl (by kernel_rfl) (fun _ _ _ h => h) (Or.inl ⟨by rfl, ?_⟩) ?_ ?_
    rotate_left
    ·intro w'
     go_simp
     with_reducible rfl
    rotate_left
    ·exact zV
    refine pure_ (i := 2) (N := some 4) (v := ?_) (a' := ?_) #[true, false, true, false] rfl rfl (by kernel_rfl) (fun _ _ _ h => h) (Or.inl ⟨by rfl, ?_⟩) ?_ ?_
    rotate_left
    ·intro w'
     go_simp
     with_reducible rfl
    rotate_left
    ·exact zV
    refine take_ (i := 1) (N := some 65) (v := ?_) (a' := ?_) #[true, true, true, false] rfl rfl (by kernel_rfl) (fun _ _ _ h => h) (Or.inl ⟨by rfl, ?_⟩) hHeld ?_ ?_
    rotate_left
    ·rintro w' ⟨s0, s1, s2⟩
     go_simp
     with_reducible rfl
    rotate_left
    ·exact zV
    refine one_ (i := 3) (N := none) #[true, true, true, true] rfl rfl (by kernel_rfl) (by decide) (fun K hK => ?_)
    have hs84 : w83.cell? ⟨gb314, 0, none⟩ = some (.slice none 0 0) := (blk_cell BK314.1 0).trans rfl
    have hfs84 := blk_frozen BK314.1 0
    have hns84_0 := NB313_314.1
    have hns84_2 := NB335_314.1
    have hns84_3 := NB344_314.1
    have hms84_0 := NB314_313.1
    have hms84_2 := NB314_335.1
    have hms84_3 := NB314_344.1
    have hs85 : w83.cell? ⟨gb314, 1, none⟩ = some (.int .i64 0) := (blk_cell BK314.1 1).trans rfl
    have hfs85 := blk_frozen BK314.1 1
    have hns85_0 := NB313_314.1
    have hns85_2 := NB335_314.1
    have hns85_3 := NB344_314.1
    have hms85_0 := NB314_313.1
    have hms85_2 := NB314_335.1
    have hms85_3 := NB314_344.1
    have hs86 : w83.cell? ⟨gb314, 2, none⟩ = some (.int .i64 0) := (blk_cell BK314.1 2).trans rfl
    have hfs86 := blk_frozen BK314.1 2
    have hns86_0 := NB313_314.1
    have hns86_2 := NB335_314.1
    have hns86_3 := NB344_314.1
    have hms86_0 := NB314_313.1
    have hms86_2 := NB314_335.1
    have hms86_3 := NB314_344.1
    refine skip_ (w1 := ?_) (by rfl) rfl ?_ ?_
    rotate_left
    ·go_simp
     rfl
    refine hK.out _ _ ⟨((cell_far (p := ⟨gb314, _, none⟩) NB344_314.1 _).trans (((cell_far (p := ⟨gb314, _, none⟩) NB344_314.1 _).trans (((cell_far (p := ⟨gb314, _, none⟩) NB344_314.1 _).trans (hHeld.1)))))), ((cell_far (p := ⟨gb314, _, none⟩) NB344_314.1 _).trans (((cell_far (p := ⟨gb314, _, none⟩) NB344_314.1 _).trans (((cell_far (p := ⟨gb314, _, none⟩) NB344_314.1 _).trans (hHeld.2.1)))))), ((cell_far (p := ⟨gb314, _, none⟩) NB344_314.1 _).trans (((cell_far (p := ⟨gb314, _, none⟩) NB344_314.1 _).trans (((cell_far (p := ⟨gb314, _, none⟩) NB344_314.1 _).trans (hHeld.2.2))))))⟩ (fun hHeld => ?_)
    clear hK K
    refine done_ (by kernel_rfl) ?_
    try go_wp2
    refine bodyPost_ret (results_tc rfl _ _ gb314 29 #[.slice Ao77 t338.length co77, .int .i64 t341, .int .i64 t342] (0, 0) _ rfl (by exact zp3 (zK BK314.1)) Try.underlying29 rfl (by kernel_rfl)) rfl ?_
    exact ⟨_, _, zE, by refine zrR ?_; exact Kd.R_mono (Kd.R_far (p := ⟨gb314, 2, none⟩) (Kd.R_far (p := ⟨gb314, 1, none⟩) (Kd.R_far (p := ⟨gb314, 0, none⟩) (Kd.R_types HO_6.1 BK314.1 (by decide)) (fun _ hk => hk.2) (.slice Ao77 t338.length co77)) (fun _ hk => hk.2) (.int .i64 t341)) (fun _ hk => hk.2) (.int .i64 t342)) (fun _ hk => hk.1), by refine zrR ?_; exact Kd.R_mono (Kd.R_far (p := ⟨gb314, 2, none⟩) (Kd.R_far (p := ⟨gb314, 1, none⟩) (Kd.R_far (p := ⟨gb314, 0, none⟩) (Kd.R_types HO340.1 BK314.1 (by decide)) (fun _ hk => hk.2) (.slice Ao77 t338.length co77)) (fun _ hk => hk.2) (.int .i64 t341)) (fun _ hk => hk.2) (.int .i64 t342)) (fun _ hk => hk.1), zB42⟩
   rw [if_pos c36] at H
   have c36b0 := decide_eq_true c36
   clear c36
   by_cases c37 : t336 < (y318.length : Int)
   rotate_left
   ·rw [if_neg c37] at H
    exact absurd H (by simp)
   rw [if_pos c37] at H
   have c37b0 := decide_eq_true c37
   clear c37
   obtain ⟨y345, hy345⟩ : ∃ y_ : List Int, y_ = (y318.set (t336 : Int).toNat t343) := ⟨_, rfl⟩
   replace H : (some (y345, t338, t341, t342)) = some (r1, r2, r3, r4) := by first | (rw [hy345]; with_reducible exact H) | (have H2_ := (Option.bind_some _ _).symm.trans H; rw [hy345]; with_reducible exact H2_) | (have H2_ := (Option.bind_some _ _).symm.trans H; with_reducible exact H2_) | with_reducible exact H | (rw [hy345]; exact H) | exact H
   have Ny345 := zM hy345
   clear hy345
   simp only [Option.some.injEq, Prod.mk.injEq] at H
   obtain ⟨rfl, rfl, rfl, rfl⟩ := H
   have hnb39 := NB313_314.1
   have hnc39 := NB314_313.1
   have hcz40 := zc_3 (w := wc) BK313.1
   have p328 : 0 ≤ (a1_1 : Int) := zA
   have q328 : a1_1 < (l0.length : Int) := zA
   obtain ⟨ad328, e328, hx328_0⟩ := Kd.at_int HR0.1 a1_1 p328 q328
   cases e328
   replace hx328_0 := (HB.1.cell (World.block_lt_of_cell? w _ hx328_0)).trans hx328_0
   replace p328 := eq_true p328
   replace q328 := eq_true q328
   try go_wp2_with (first | ((with_reducible refine gate_callee (f := 105) rfl ?_); refine goesL_ (some 38) rfl rfl Try.func105 (by kernel_rfl) rfl #[.int .i64 (rd l0 a1_1)] rfl zT ?_; (with_reducible refine (spec_Decode.calls (rd l0 a1_1) t329 t330 t331 t332 t333 t334 _ A30.1).mono ?_); rintro e w41 ⟨rfl, hb⟩; refine ⟨_, rfl, ?_⟩; replace HO_6 := zM (Kd.R_below (zR HO_6.1) hb); replace BK313 := zM (zb BK313.1 hb); replace BK314 := zM (zb BK314.1 hb); replace HB := zM (below_step zB40 hb); clear hb) | ((with_reducible refine gate_dst (N := 7) rfl ?_); refine box_event ?hg (N := 7) ?hd (cs := #[.int .i64 0, .int .i64 0, .int .i64 0, .int .i64 0, .int .i64 0]) (t := 59) ?hr ?_; (case hd => rfl); (case hg => rfl); (case hr => exact zHH); intro gb335 hg w42 hbox hb; replace HO_6 := zM (Kd.R_below (zR HO_6.1) hb); have BK335 := zM hbox; have GW335 := zM (zW hg (below_size zB40)); have GE335 := zM (zW hg (below_size zB40)); replace HB := zM (below_step zB40 hb); have NB313_335 := zM ((zn BK313.1 hg : gb313 ≠ gb335)); have NB335_313 := zM ((zm BK313.1 hg : gb335 ≠ gb313)); replace BK313 := zM (zb BK313.1 hb); have NB314_335 := zM ((zn BK314.1 hg : gb314 ≠ gb335)); have NB335_314 := zM ((zm BK314.1 hg : gb335 ≠ gb314)); replace BK314 := zM (zb BK314.1 hb); clear hb hbox hg; have hnb43 := NB335_313.1; have hnc43 := NB313_335.1; have hnb44 := NB335_314.1; have hnc44 := NB314_335.1; have hcz45 := zc_5 (w := w42) BK335.1; have hcz46 := zc_3 (w := w42) BK313.1) | ((with_reducible refine gate_callee (f := 106) rfl ?_); refine goesL_ (some 44) rfl rfl Try.func106 (by kernel_rfl) rfl #[.agg #[.int .i64 t329, .int .i64 t330, .int .i64 t331, .int .i64 t332, .int .i64 t333], .slice A1_0 l1_0.length c1_0] rfl zT ?_; (with_reducible refine (spec_Target.calls t329 t330 t331 t332 t333 _ _ l1_0 t336 _ ?side1 ?side2 A31.1).mono ?_); (case side1 => exact Kd.C_below HR1_0.1 zB41); (case side2 => exact HC1_0.1); rintro e w47 ⟨rfl, hb⟩; refine ⟨_, rfl, ?_⟩; replace HO_6 := zM (Kd.R_below (by refine zrR ?_; exact (Kd.R_mono (Kd.R_far (p := ⟨gb335, 4, none⟩) (Kd.R_far (p := ⟨gb335, 3, none⟩) (Kd.R_far (p := ⟨gb335, 2, none⟩) (Kd.R_far (p := ⟨gb335, 1, none⟩) (Kd.R_far (p := ⟨gb335, 0, none⟩) (Kd.R_types HO_6.1 BK335.1 (by decide)) (fun _ hk => hk.2) (.int .i64 t329)) (fun _ hk => hk.2) (.int .i64 t330)) (fun _ hk => hk.2) (.int .i64 t331)) (fun _ hk => hk.2) (.int .i64 t332)) (fun _ hk => hk.2) (.int .i64 t333)) (fun _ h_ => h_.1))) hb); replace BK313 := zM (zf BK313.1 hb); replace BK314 := zM (zf BK314.1 hb); replace BK335 := zM (blk_below (g := gb335) (o := .cells #[.int .i64 t329, .int .i64 t330, .int .i64 t331, .int .i64 t332, .int .i64 t333] 59 (0, 0)) (by exact zp5 (zK BK335.1)) hb); replace HB := zM (below_step zB41 hb); clear hb; have p337 : 0 ≤ (t336 : Int) := zA; have q337 : t336 < (l0.length : Int) := zA; obtain ⟨ad337, e337, hx337_0⟩ := Kd.at_int HR0.1 t336 p337 q337; obtain rfl : ad328 = ad337 := (by injection e337); replace hx337_0 := (HB.1.cell (World.block_lt_of_cell? w _ hx337_0)).trans hx337_0; replace p337 := eq_true p337; replace q337 := eq_true q337; have hcz48 := zc_3 (w := w47) BK313.1; have hcz49 := zc_5 (w := w47) BK335.1) | ((with_reducible refine gate_callee (f := 107) rfl ?_); refine goesL_ (some 55) rfl rfl Try.func107 (by kernel_rfl) rfl #[.agg #[.slice A1_0 l1_0.length c1_0, .int .i64 a1_1, .int .i64 a1_2], .agg #[.int .i64 t329, .int .i64 t330, .int .i64 t331, .int .i64 t332, .int .i64 t333], .int .i64 (rd l0 t336)] rfl zT ?_; (with_reducible refine (spec_Work.calls kj3 _ _ l1_0 a1_1 a1_2 t329 t330 t331 t332 t333 (rd l0 t336) t338 t341 t342 t343 _ ?side1 ?side2 A35.1).mono ?_); (case side1 => exact zC (Kd.C_below HR1_0.1 HB.1)); (case side2 => exact HC1_0.1); rintro e w50 ⟨v339, rfl, ho0, hb⟩; refine ⟨_, rfl, ?_⟩; have HO340 := zM (Kd.R_lower (Kd.R_new' ho0 (Kd.R_lt (zR HO_6.1))) (below_size zB41)); replace HO_6 := zM (Kd.R_elder' (zR HO_6.1) (Kd.R_base ho0) hb); replace BK313 := zM (zb BK313.1 hb); replace BK314 := zM (zb BK314.1 hb); replace BK335 := zM (zb BK335.1 hb); replace HB := zM (below_step zB41 hb); clear hb ho0) | ((with_reducible refine gate_dst (N := 11) rfl ?_); refine box_event ?hg (N := 11) ?hd (cs := #[.slice none 0 0, .int .i64 0, .int .i64 0]) (t := 29) ?hr ?_; (case hd => rfl); (case hg => rfl); (case hr => exact zHH); intro gb344 hg w51 hbox hb; replace HO_6 := zM (Kd.R_below (zR HO_6.1) hb); replace HO340 := zM (Kd.R_below (zR HO340.1) hb); have BK344 := zM hbox; have GW344 := zM (zW hg (below_size zB41)); have GE344 := zM (zW hg (below_size zB41)); replace HB := zM (below_step zB41 hb); have NB313_344 := zM ((zn BK313.1 hg : gb313 ≠ gb344)); have NB344_313 := zM ((zm BK313.1 hg : gb344 ≠ gb313)); replace BK313 := zM (zb BK313.1 hb); have NB314_344 := zM ((zn BK314.1 hg : gb314 ≠ gb344)); have NB344_314 := zM ((zm BK314.1 hg : gb344 ≠ gb314)); replace BK314 := zM (zb BK314.1 hb); have NB335_344 := zM ((zn BK335.1 hg : gb335 ≠ gb344)); have NB344_335 := zM ((zm BK335.1 hg : gb344 ≠ gb335)); replace BK335 := zM (zb BK335.1 hb); clear hb hbox hg; obtain ⟨Ao52, co52, eo52⟩ := Kd.R_slice HO340.1; subst eo52; have hnb53 := NB344_313.1; have hnc53 := NB313_344.1; have hnb54 := NB344_314.1; have hnc54 := NB314_344.1; have hnb55 := NB344_335.1; have hnc55 := NB335_344.1; have hcz56 := zc_3 (w := w51) BK344.1) | ((with_reducible refine gate_store (t := 29) (p := 11) rfl ?_); refine store_event (t := 29) (p := 11) (v := ?vo_w57) (w1 := (((w51.setCell ⟨gb344, 0, none⟩ (.slice Ao52 t338.length co52)).setCell ⟨gb344, 1, none⟩ (.int .i64 t341)).setCell ⟨gb344, 2, none⟩ (.int .i64 t342))) ?hg ?ho ?hn ?hr ?_; (case ho => rfl); (case hg => rfl); (case hn => rfl); (case hr => exact zHH); intro w57 hw; have n0_ : Aside0 (Kd.R (Kd.int .i64) 3 w57 w.heap.size (fun k_ => some k_ ≠ (.slice Ao52 t338.length co52 : Value).ownBlock) v319 y318) := ⟨(by rw [hw]; exact (by refine zrR ?_; exact Kd.R_mono (Kd.R_far (p := ⟨gb344, 2, none⟩) (Kd.R_far (p := ⟨gb344, 1, none⟩) (Kd.R_far (p := ⟨gb344, 0, none⟩) (Kd.R_types HO_6.1 BK344.1 (by decide)) (fun _ hk => hk.2) (.slice Ao52 t338.length co52)) (fun _ hk => hk.2) (.int .i64 t341)) (fun _ hk => hk.2) (.int .i64 t342)) (fun _ hk => hk.1.2)))⟩; have n1_ : Aside0 (Kd.R (Kd.int .i64) 3 w57 w.heap.size (fun k_ => some k_ ≠ (v319 : Value).ownBlock) (.slice Ao52 t338.length co52) t338) := ⟨(by rw [hw]; exact (by refine zrR ?_; exact Kd.R_mono (Kd.R_far (p := ⟨gb344, 2, none⟩) (Kd.R_far (p := ⟨gb344, 1, none⟩) (Kd.R_far (p := ⟨gb344, 0, none⟩) (Kd.R_types HO340.1 BK344.1 (by decide)) (fun _ hk => hk.2) (.slice Ao52 t338.length co52)) (fun _ hk => hk.2) (.int .i64 t341)) (fun _ hk => hk.2) (.int .i64 t342)) (fun _ hk => hk.1.2)))⟩; have n2_ : Aside0 (w57.heap[gb313]? = some (.cells #[.slice A1_0 l1_0.length c1_0, .int .i64 a1_1, .int .i64 a1_2] 29 (0, 0))) := ⟨(by rw [hw]; exact (by refine zP ?_; refine blk_far ?_ NB313_344.1 _; refine zP ?_; refine blk_far ?_ NB313_344.1 _; refine zP ?_; refine blk_far ?_ NB313_344.1 _; refine zP ?_; exact BK313.1))⟩; have n3_ : Aside0 (w57.heap[gb314]? = some (.cells #[.slice none 0 0, .int .i64 0, .int .i64 0] 29 (0, 0))) := ⟨(by rw [hw]; exact (by refine zP ?_; refine blk_far ?_ NB314_344.1 _; refine zP ?_; refine blk_far ?_ NB314_344.1 _; refine zP ?_; refine blk_far ?_ NB314_344.1 _; refine zP ?_; exact BK314.1))⟩; have n4_ : Aside0 (w57.heap[gb335]? = some (.cells #[.int .i64 t329, .int .i64 t330, .int .i64 t331, .int .i64 t332, .int .i64 t333] 59 (0, 0))) := ⟨(by rw [hw]; exact (by refine zP ?_; refine blk_far ?_ NB335_344.1 _; refine zP ?_; refine blk_far ?_ NB335_344.1 _; refine zP ?_; refine blk_far ?_ NB335_344.1 _; refine zP ?_; exact BK335.1))⟩; have n5_ : Aside0 (w57.heap[gb344]? = some (.cells #[.slice Ao52 t338.length co52, .int .i64 t341, .int .i64 t342] 29 (0, 0))) := ⟨(by rw [hw]; exact (by exact zp3 (zK BK344.1)))⟩; have n6_ : Aside0 (Below w.heap.size w w57) := ⟨(by rw [hw]; exact zB42)⟩; clear hw; clear HO_6; clear HO340; clear BK313; clear BK314; clear BK335; clear BK344; clear HB; have HO_6 := n0_; have HO340 := n1_; have BK313 := n2_; have BK314 := n3_; have BK335 := n4_; have BK344 := n5_; have HB := n6_; clear n0_ n1_ n2_ n3_ n4_ n5_ n6_; have p38 : 0 ≤ (t336 : Int) := zA; have q38 : (t336 : Int) < ((y318.length : Int) : Int) := zA; obtain ⟨go38, co38, eo38, gb38, gl38, cl38, HG38⟩ := Kd.R_form HO_6.1 (by omega); (first | cases eo38 | (injection eo38 with ea_ en_ ec_; (first | subst ea_ | (injection ea_ with ea_; subst ea_)); subst ec_; clear en_)); have GB38 := zM gb38; have GG38 := zM HG38; clear gb38 gl38 HG38; obtain ⟨hx38_0, hf38_0⟩ := Kd.R_celln 0 HO_6.1 (t336 : Int) p38 q38; replace p38 := eq_true p38; replace q38 := eq_true q38; obtain ⟨hy58_, hz58_⟩ := Kd.R_celln 0 HO_6.1 (t336 : Int) zA zA; have HP58 := Kd.R_putg HO_6.1 (t336 : Int) t343) | ((with_reducible refine gate_store (t := 3) (p := 63) rfl ?_); refine store_event (t := 3) (p := 63) (v := ?vo_w59) (w1 := (w57.setCell ⟨go38, (t336 : Int).toNat, none⟩ (.int .i64 t343))) ?hg ?ho ?hn ?hr ?_; (case ho => rfl); (case hg => rfl); (case hn => rfl); (case hr => exact zHH); intro w59 hw; have hg : w57.grownBy w59 (some go38) := (by rw [hw]; exact HP58.2); have hp_ : Kd.R (Kd.int .i64) 3 w59 w.heap.size (fun k_ => some k_ ≠ (.slice Ao52 t338.length co52 : Value).ownBlock) (.slice (some ⟨go38, 0, none⟩) y318.length co38) y345 := (by rw [hw, Ny345.1]; exact HP58.1); clear HP58; replace BK313 := zM (zg BK313.1 hg (Kd.R_ne HO_6.1 BK313.1 (by decide))); replace BK314 := zM (zg BK314.1 hg (Kd.R_ne HO_6.1 BK314.1 (by decide))); replace BK335 := zM (zg BK335.1 hg (Kd.R_ne HO_6.1 BK335.1 (by decide))); replace HO340 := zM (Kd.R_after (v := (.slice (some ⟨go38, 0, none⟩) y318.length co38)) (v1 := (.slice (some ⟨go38, 0, none⟩) y318.length co38)) (ok := (fun _ => True)) (by refine zrR ?_; exact Kd.R_mono HO340.1 (fun _ hk => ⟨trivial, hk⟩)) hg (.inl rfl)); replace BK344 := zM (zg BK344.1 hg (Kd.R_ne HO_6.1 BK344.1 (by decide))); replace HO_6 := zM hp_; replace HB := zM ((by rw [hw]; exact below_set (HB.1) GB38.1 : Below w.heap.size w w59)); clear hg hw hp_))
   replace HO_6 := zM (Kd.R_drew HO_6.1)
   replace HO340 := zM (Kd.R_drew HO340.1)
   replace BK313 := zM (blk_drew BK313.1)
   replace BK314 := zM (blk_drew BK314.1)
   replace BK335 := zM (blk_drew BK335.1)
   replace BK344 := zM (blk_drew BK344.1)
   replace HB := zM (below_drew1 HB.1)
   refine start_ (n := 4) (S := fun w' => w'.cell? ⟨gb344, 0, none⟩ = some (.slice Ao52 t338.length co52) ∧ w'.cell? ⟨gb344, 1, none⟩ = some (.int .i64 t341) ∧ w'.cell? ⟨gb344, 2, none⟩ = some (.int .i64 t342)) (ds := []) #[false, false, false, false] (by kernel_rfl) rfl rfl ⟨(blk_cell BK344.1 0).trans rfl, (blk_cell BK344.1 1).trans rfl, (blk_cell BK344.1 2).trans rfl⟩ (fun hHeld => ?_)
   generalize w59.drew = w60 at HO_6 HO340 BK313 BK314 BK335 BK344 HB hHeld ⊢
   refine pure_ (i := 0) (N := some 64) (v := ?_) (a' := ?_) #[true, false, false, false] rfl rfl (by kernel_rfl) (fun _ _ _ h => h) (Or.inl ⟨by rfl, ?_⟩) ?_ ?_
   rotate_left
   ·intro w'
    go_simp
    with_reducible rfl
   rotate_left
   ·exact zV
   refine pure_ (i := 2) (N := some 4) (v := ?_) (a' := ?_) #[true, false, true, false] rfl rfl (by kernel_rfl) (fun _ _ _ h => h) (Or.inl ⟨by rfl, ?_⟩) ?_ ?_
   rotate_left
   ·intro w'
    go_simp
    with_reducible rfl
   rotate_left
   ·exact zV
   refine take_ (i := 1) (N := some 65) (v := ?_) (a' := ?_) #[true, true, true, false] rfl rfl (by kernel_rfl) (fun _ _ _ h => h) (Or.inl ⟨by rfl, ?_⟩) hHeld ?_ ?_
   rotate_left
   ·rintro w' ⟨s0, s1, s2⟩
    go_simp
    with_reducible rfl
   rotate_left
   ·exact zV
   refine one_ (i := 3) (N := none) #[true, true, true, true] rfl rfl (by kernel_rfl) (by decide) (fun K hK => ?_)
   have hs61 : w60.cell? ⟨gb314, 0, none⟩ = some (.slice none 0 0) := (blk_cell BK314.1 0).trans rfl
   have hfs61 := blk_frozen BK314.1 0
   have hns61_0 := NB313_314.1
   have hns61_2 := NB335_314.1
   have hns61_3 := NB344_314.1
   have hms61_0 := NB314_313.1
   have hms61_2 := NB314_335.1
   have hms61_3 := NB314_344.1
   have hs62 : w60.cell? ⟨gb314, 1, none⟩ = some (.int .i64 0) := (blk_cell BK314.1 1).trans rfl
   have hfs62 := blk_frozen BK314.1 1
   have hns62_0 := NB313_314.1
   have hns62_2 := NB335_314.1
   have hns62_3 := NB344_314.1
   have hms62_0 := NB314_313.1
   have hms62_2 := NB314_335.1
   have hms62_3 := NB314_344.1
   have hs63 : w60.cell? ⟨gb314, 2, none⟩ = some (.int .i64 0) := (blk_cell BK314.1 2).trans rfl
   have hfs63 := blk_frozen BK314.1 2
   have hns63_0 := NB313_314.1
   have hns63_2 := NB335_314.1
   have hns63_3 := NB344_314.1
   have hms63_0 := NB314_313.1
   have hms63_2 := NB314_335.1
   have hms63_3 := NB314_344.1
   refine skip_ (w1 := ?_) (by rfl) rfl ?_ ?_
   rotate_left
   ·go_simp
    rfl
   refine hK.out _ _ ⟨((cell_far (p := ⟨gb314, _, none⟩) NB344_314.1 _).trans (((cell_far (p := ⟨gb314, _, none⟩) NB344_314.1 _).trans (((cell_far (p := ⟨gb314, _, none⟩) NB344_314.1 _).trans (hHeld.1)))))), ((cell_far (p := ⟨gb314, _, none⟩) NB344_314.1 _).trans (((cell_far (p := ⟨gb314, _, none⟩) NB344_314.1 _).trans (((cell_far (p := ⟨gb314, _, none⟩) NB344_314.1 _).trans (hHeld.2.1)))))), ((cell_far (p := ⟨gb314, _, none⟩) NB344_314.1 _).trans (((cell_far (p := ⟨gb314, _, none⟩) NB344_314.1 _).trans (((cell_far (p := ⟨gb314, _, none⟩) NB344_314.1 _).trans (hHeld.2.2))))))⟩ (fun hHeld => ?_)
   clear hK K
   refine done_ (by kernel_rfl) ?_
   try go_wp2
   refine bodyPost_ret (results_tc rfl _ _ gb314 29 #[.slice Ao52 t338.length co52, .int .i64 t341, .int .i64 t342] (0, 0) _ rfl (by exact zp3 (zK BK314.1)) Try.underlying29 rfl (by kernel_rfl)) rfl ?_
   exact ⟨_, _, zE, by refine zrR ?_; exact Kd.R_mono (Kd.R_far (p := ⟨gb314, 2, none⟩) (Kd.R_far (p := ⟨gb314, 1, none⟩) (Kd.R_far (p := ⟨gb314, 0, none⟩) (Kd.R_types HO_6.1 BK314.1 (by decide)) (fun _ hk => hk.2) (.slice Ao52 t338.length co52)) (fun _ hk => hk.2) (.int .i64 t341)) (fun _ hk => hk.2) (.int .i64 t342)) (fun _ hk => hk.1), by refine zrR ?_; exact Kd.R_mono (Kd.R_far (p := ⟨gb314, 2, none⟩) (Kd.R_far (p := ⟨gb314, 1, none⟩) (Kd.R_far (p := ⟨gb314, 0, none⟩) (Kd.R_types HO340.1 BK314.1 (by decide)) (fun _ hk => hk.2) (.slice Ao52 t338.length co52)) (fun _ hk => hk.2) (.int .i64 t341)) (fun _ hk => hk.2) (.int .i64 t342)) (fun _ hk => hk.1.2), zB42⟩

end Go.Proofs.Ytnjdepmlpdjghaa.PFnExactFinals
