-- made by wip/tools/myprint.py out of the seat's translation
import Derived.Test.YtgbjengnkbomoaaPFnKnowsx0
import Derived.Test.YtgbjengnkbomoaaPFnKnowsx5
import Derived.Test.YtgbjengnkbomoaaPFnKnowsx6
namespace Go.Proofs.Ytgbjengnkbomoaa.PFnKnows
open Go.RowKit Go.Proofs.YtgbjengnkbomoaaW.PrintWords Go.Proofs.YtgbjengnkbomoaaW.PrintLast Go.Proofs.YtgbjengnkbomoaaW.PrintMore
attribute [local go_sem] max2_int min2_int max_two min_two max_three min_three max_four min_four   -- for this text's walks alone
set_option linter.unusedVariables false
set_option linter.unusedSimpArgs false
set_option maxHeartbeats 8000000
set_option maxRecDepth 100000

/-! ### spec_FlatStep: function 57 -/
def spec_FlatStep.j0 : Nat → List Int → List Int → Bool → List Int → Int → Int → Option (List Int × List Int × Int × Int)
 | 0, _, _, _, _, _, _ => none
 | k + 1, x0, x6, x28, x324000, x324001, x324002 => if x28 = true then ((spec_l9Copy.f x324000 x324001 x324002).bind fun bt333 => (some (x6, bt333.1, bt333.2.1, bt333.2.2))) else (if 0 ≤ x324001 then (if x324001 < (x0.length : Int) then ((spec_Decode.f (rd x0 x324001)).bind fun bt339 => ((spec_Target.f bt339.1 bt339.2.1 bt339.2.2.1 bt339.2.2.2.1 bt339.2.2.2.2.1 x324000).bind fun t346 => (if t346 ≥ 0 then (if 0 ≤ t346 then (if t346 < (x0.length : Int) then ((spec_Work.f k x324000 x324001 x324002 bt339.1 bt339.2.1 bt339.2.2.1 bt339.2.2.2.1 bt339.2.2.2.2.1 (rd x0 t346)).bind fun bt348 => (if bt348.2.2.2 ≥ 0 then (if t346 < (x6.length : Int) then (some ((x6.set (t346 : Int).toNat bt348.2.2.2), bt348.1, bt348.2.1, bt348.2.2.1)) else (none)) else (some (x6, bt348.1, bt348.2.1, bt348.2.2.1)))) else (none)) else (none)) else ((spec_Work.f k x324000 x324001 x324002 bt339.1 bt339.2.1 bt339.2.2.1 bt339.2.2.2.1 bt339.2.2.2.2.1 0).bind fun bt356 => (if bt356.2.2.2 ≥ 0 then (if 0 ≤ t346 then (if t346 < (x6.length : Int) then (some ((x6.set (t346 : Int).toNat bt356.2.2.2), bt356.1, bt356.2.1, bt356.2.2.1)) else (none)) else (none)) else (some (x6, bt356.1, bt356.2.1, bt356.2.2.1))))))) else (none)) else (none))
def spec_FlatStep.f (k : Nat) (l0 : List Int) (l1_0 : List Int) (a1_1 : Int) (a1_2 : Int) : Option (List Int × List Int × Int × Int) := (some (([] : List Int) : List Int)).bind fun y325 => (if y325.length + l0.length < 17592186044416 then ((some (y325 ++ l0 : List Int)).bind fun y328 => ((spec_l1Words.f k l0 24).bind fun t331 => (if t331 = true then ((spec_HartOk.f k l1_0 a1_1 a1_2).bind fun t332 => (if t332 = true then (spec_FlatStep.j0 k l0 y328 (a1_2 != 0) l1_0 a1_1 a1_2) else (spec_FlatStep.j0 k l0 y328 true l1_0 a1_1 a1_2))) else (spec_FlatStep.j0 k l0 y328 true l1_0 a1_1 a1_2)))) else (none))
theorem spec_FlatStep.mono_l : ∀ k, (∀ y0 y1 y2 y3 y4 y5, LeO (spec_FlatStep.j0 k y0 y1 y2 y3 y4 y5) (spec_FlatStep.j0 (k + 1) y0 y1 y2 y3 y4 y5))
 | 0 => fun _ _ _ _ _ _ r h => by simp [spec_FlatStep.j0] at h
 | k + 1 => by
  have ih0 := spec_FlatStep.mono_l k
  ·intros
   unfold spec_FlatStep.j0
   have mo0 := @spec_HartOk.mono
   have mo1 := @spec_Work.mono
   have mo2 := @spec_l1Words.mono
   exact zL
theorem spec_FlatStep.mono : ∀ a0 a1 a2 a3 k, LeO (spec_FlatStep.f k a0 a1 a2 a3) (spec_FlatStep.f (k + 1) a0 a1 a2 a3) := by
 intro a0 a1 a2 a3 k
 have ih0 := spec_FlatStep.mono_l k
 unfold spec_FlatStep.f
 have mo0 := @spec_HartOk.mono
 have mo1 := @spec_Work.mono
 have mo2 := @spec_l1Words.mono
 exact zL
theorem spec_FlatStep.calls (k : Nat) (A0 : Option Addr) (c0 : Nat) (l0 : List Int) (A1_0 : Option Addr) (c1_0 : Nat) (l1_0 : List Int) (a1_1 : Int) (a1_2 : Int) (r1 : List Int) (r2 : List Int) (r3 : Int) (r4 : Int) (w : World) (hr0 : Kd.C (Kd.int .i64) w A0 l0.length l0) (hc0 : l0.length ≤ c0) (hr1_0 : Kd.C (Kd.int .i64) w A1_0 l1_0.length l1_0) (hc1_0 : l1_0.length ≤ c1_0) (h : spec_FlatStep.f k l0 l1_0 a1_1 a1_2 = some (r1, r2, r3, r4)) :
  Calls Try.prog 57 #[.slice A0 l0.length c0, .agg #[.slice A1_0 l1_0.length c1_0, .int .i64 a1_1, .int .i64 a1_2]] w fun e w' => ∃ v0_ v1_ : Value, e = .returned (.tuple #[v0_, .agg #[v1_, .int .i64 r3, .int .i64 r4]]) ∧ Kd.R (Kd.int .i64) 3 w' w.heap.size (fun k_ => some k_ ≠ (v1_ : Value).ownBlock) v0_ r1 ∧ Kd.R (Kd.int .i64) 3 w' w.heap.size (fun k_ => some k_ ≠ (v0_ : Value).ownBlock) v1_ r2 ∧ Below w.heap.size w w' := by
 have hu49 := Try.underlying49
 have hu71 := Try.underlying71
 have HR0 := zM hr0
 have HC0 := zM hc0
 clear hr0 hc0
 have HR1_0 := zM hr1_0
 have HC1_0 := zM hc1_0
 clear hr1_0 hc1_0
 have HB := zM (Below.refl w.heap.size w)
 unfold spec_FlatStep.f at h
 have H := h
 clear h
 obtain ⟨y325, hy325⟩ : ∃ y_ : List Int, y_ = (([] : List Int)) := ⟨_, rfl⟩
 replace H : (if y325.length + l0.length < 17592186044416 then ((some (y325 ++ l0 : List Int)).bind fun y328 => ((spec_l1Words.f k l0 24).bind fun t331 => (if t331 = true then ((spec_HartOk.f k l1_0 a1_1 a1_2).bind fun t332 => (if t332 = true then (spec_FlatStep.j0 k l0 y328 (a1_2 != 0) l1_0 a1_1 a1_2) else (spec_FlatStep.j0 k l0 y328 true l1_0 a1_1 a1_2))) else (spec_FlatStep.j0 k l0 y328 true l1_0 a1_1 a1_2)))) else (none)) = some (r1, r2, r3, r4) := by first | (rw [hy325]; with_reducible exact H) | (have H2_ := (Option.bind_some _ _).symm.trans H; rw [hy325]; with_reducible exact H2_) | (have H2_ := (Option.bind_some _ _).symm.trans H; with_reducible exact H2_) | with_reducible exact H | (rw [hy325]; exact H) | exact H
 have Ny325 := zM hy325
 clear hy325
 replace H := zIn H
 obtain ⟨LMc3, H⟩ := H
 obtain ⟨y328, hy328⟩ : ∃ y_ : List Int, y_ = (y325 ++ l0) := ⟨_, rfl⟩
 replace H : ((spec_l1Words.f k l0 24).bind fun t331 => (if t331 = true then ((spec_HartOk.f k l1_0 a1_1 a1_2).bind fun t332 => (if t332 = true then (spec_FlatStep.j0 k l0 y328 (a1_2 != 0) l1_0 a1_1 a1_2) else (spec_FlatStep.j0 k l0 y328 true l1_0 a1_1 a1_2))) else (spec_FlatStep.j0 k l0 y328 true l1_0 a1_1 a1_2))) = some (r1, r2, r3, r4) := by first | (rw [hy328]; with_reducible exact H) | (have H2_ := (Option.bind_some _ _).symm.trans H; rw [hy328]; with_reducible exact H2_) | (have H2_ := (Option.bind_some _ _).symm.trans H; with_reducible exact H2_) | with_reducible exact H | (rw [hy328]; exact H) | exact H
 have Ny328 := zM hy328
 clear hy328
 have HC4 := zM H
 clear H
 go_enter Try.func57, Try.ntmps57
 go_upto_region 2 with (first | ((with_reducible refine zBx 3 49 #[.slice A1_0 l1_0.length c1_0, .int .i64 a1_1, .int .i64 a1_2] ?_); intro gb323 hg w5 hbox hb; have BK323 := zM hbox; have GW323 := zM (zW hg (below_size zB1)); have GE323 := zM (zW hg (below_size zB1)); replace HB := zM (below_step zB1 hb); clear hb hbox hg) | ((with_reducible refine zBx 5 49 #[.slice none 0 0, .int .i64 0, .int .i64 0] ?_); intro gb324 hg w6 hbox hb; have BK324 := zM hbox; have GW324 := zM (zW hg (below_size zB1)); have GE324 := zM (zW hg (below_size zB1)); replace HB := zM (below_step zB1 hb); have NB323_324 := zM ((zn BK323.1 hg : gb323 ≠ gb324)); have NB324_323 := zM ((zm BK323.1 hg : gb324 ≠ gb323)); replace BK323 := zM (zb BK323.1 hb); clear hb hbox hg) | ((with_reducible refine gate_dst (N := 13) rfl ?_); refine Kd.R_lit (Kd.int .i64) _ 3 ?hg (N := 13) ?hd (xs := ([] : List Int)) (inner := []) (ok := fun _ => True) (okp := fun _ => True) ?hr ?hp (fun _ hk => hk) trivial (Below.refl _ _) (Nat.le_refl _) (by simp) ?_; (case hd => rfl); (case hg => rfl); (case hr => exact zHH); (case hp => exact (Reps.none _ _)); intro v326 w7 ho8 hb hg_ hnew_; clear hg_ hnew_; (first | rw [← Ny325.1] at ho8 | (simp only [Int.reduceToNat] at ho8; rw [← Ny325.1] at ho8)); have HO327 := zM (Kd.R_lower ho8 (below_size zB1)); replace BK323 := zM (zb BK323.1 hb); replace BK324 := zM (zb BK324.1 hb); replace HB := zM (below_step zB1 hb); clear hb ho8) | ((with_reducible refine gate_builtin (b := .append) (xs := #[.tmp 13, .tmp 14]) rfl ?_); at_builtin; refine Kd.R_append_rows (Kd.int .i64) (w0 := w) w.heap.size rfl (.tmp 13) (.tmp 14) 29 3 (.int .i64 0) 8 rfl Try.underlying29 info3 rfl (by decide) (by omega) v326 y325 l0 _ _ _ (fun _ => True) (fun _ => False) rfl rfl ?aO ?aR (fun _ _ h => h) (fun _ h => h.elim) ?aF ?aB ?aS ?aL ?_; (case aR => exact zC (Kd.C_below HR0.1 HB.1)); (case aB => exact zB1); (case aF => exact (fun _ _ => trivial)); (case aO => exact (zR HO327.1)); (case aS => exact (below_size zB1)); (case aL => have := LMc3.out; omega); intro v329 w9 ho hb hg hat; rw [← Ny328.1] at ho; replace BK323 := zM (zg BK323.1 hg (Kd.R_ne HO327.1 BK323.1 (by decide))); replace BK324 := zM (zg BK324.1 hg (Kd.R_ne HO327.1 BK324.1 (by decide))); replace HB := zM hb; have HO330 := zM ho; clear HO327; clear ho hb hg hat))
 (try simp only [Act.put, List.setIfInBounds_toArray, List.set_cons_zero, List.set_cons_succ])
 go_cut [28] (fun v28 wc => ∃ (kq : Nat) (x28_3 : Bool), v28 = .bool x28_3 ∧ Aside0 (spec_FlatStep.j0 kq l0 y328 x28_3 l1_0 a1_1 a1_2 = some (r1, r2, r3, r4)) ∧ Aside0 (kq ≤ k) ∧ Aside0 (Kd.R (Kd.int .i64) 3 wc w.heap.size (fun _ => True) v329 y328) ∧ Aside0 (wc.heap[gb323]? = some (.cells #[(.slice A1_0 l1_0.length c1_0), .int .i64 a1_1, .int .i64 a1_2] 49 (0, 0))) ∧ Aside0 (wc.heap[gb324]? = some (.cells #[(.slice none 0 0), .int .i64 0, .int .i64 0] 49 (0, 0))) ∧ Aside0 (Below w.heap.size w wc))
 case first =>
  have H := HC4.1
  clear HC4
  replace H := zO H
  obtain ⟨t331, A10, H⟩ := H
  by_cases c11 : t331 = true
  rotate_left
  ·replace c11 := Bool.eq_false_iff.mpr c11
   subst c11
   rw [if_neg zF] at H
   have H' := zM H
   clear H
   go_wp2_with (first | ((with_reducible refine zG Try.func75 17 #[.slice A0 l0.length c0, .int .i64 24] ?_); (with_reducible refine (spec_l1Words.calls k _ _ l0 24 false _ ?side1 ?side2 A10.1).mono ?_); (case side1 => exact zC (Kd.C_below HR0.1 HB.1)); (case side2 => exact HC0.1); rintro e w' ⟨rfl, ⟨nd, rfl⟩⟩; refine ⟨_, rfl, ?_⟩))
   go_meet
   case rel => exact ⟨_, (true), zJJ, H', ⟨by first | omega | exact Nat.le_refl _⟩, ⟨zR HO330.1⟩, ⟨zK BK323.1⟩, ⟨zK BK324.1⟩, ⟨zB1⟩⟩
  subst c11
  rw [if_pos rfl] at H
  replace H := zO H
  obtain ⟨t332, A12, H⟩ := H
  by_cases c13 : t332 = true
  rotate_left
  ·replace c13 := Bool.eq_false_iff.mpr c13
   subst c13
   rw [if_neg zF] at H
   have H' := zM H
   clear H
   go_wp2_with (first | ((with_reducible refine zG Try.func75 17 #[.slice A0 l0.length c0, .int .i64 24] ?_); (with_reducible refine (spec_l1Words.calls k _ _ l0 24 true _ ?side1 ?side2 A10.1).mono ?_); (case side1 => exact zC (Kd.C_below HR0.1 HB.1)); (case side2 => exact HC0.1); rintro e w' ⟨rfl, ⟨nd, rfl⟩⟩; refine ⟨_, rfl, ?_⟩; have hnb18 := NB323_324.1; have hnc18 := NB324_323.1; have hcz19 := zc_3 (w := w9) BK323.1) | (go_at_call 76; (with_reducible refine (spec_HartOk.calls k _ _ l1_0 a1_1 a1_2 false _ ?side1 ?side2 A12.1).mono ?_); (case side1 => repeat (first | exact (Kd.C_below HR1_0.1 zB1) | (with_reducible refine Kd.C_alloc ?_ _) | (with_reducible refine Kd.C_drewN ?_ _) | (with_reducible refine Kd.C_drew ?_))); (case side2 => exact HC1_0.1); rintro e w20 ⟨rfl, hb⟩; replace HO330 := zM (Kd.R_below (zR HO330.1) hb); replace BK323 := zM (zb BK323.1 hb); replace BK324 := zM (zb BK324.1 hb); replace HB := zM (below_step zB1 hb); clear hb))
   go_meet
   case rel => exact ⟨_, (true), zJJ, H', ⟨by first | omega | exact Nat.le_refl _⟩, ⟨zR HO330.1⟩, ⟨zK BK323.1⟩, ⟨zK BK324.1⟩, ⟨zB1⟩⟩
  subst c13
  rw [if_pos rfl] at H
  have H' := zM H
  clear H
  go_wp2_with (first | ((with_reducible refine zG Try.func75 17 #[.slice A0 l0.length c0, .int .i64 24] ?_); (with_reducible refine (spec_l1Words.calls k _ _ l0 24 true _ ?side1 ?side2 A10.1).mono ?_); (case side1 => exact zC (Kd.C_below HR0.1 HB.1)); (case side2 => exact HC0.1); rintro e w' ⟨rfl, ⟨nd, rfl⟩⟩; refine ⟨_, rfl, ?_⟩; have hnb14 := NB323_324.1; have hnc14 := NB324_323.1; have hcz15 := zc_3 (w := w9) BK323.1) | (go_at_call 76; (with_reducible refine (spec_HartOk.calls k _ _ l1_0 a1_1 a1_2 true _ ?side1 ?side2 A12.1).mono ?_); (case side1 => repeat (first | exact (Kd.C_below HR1_0.1 zB1) | (with_reducible refine Kd.C_alloc ?_ _) | (with_reducible refine Kd.C_drewN ?_ _) | (with_reducible refine Kd.C_drew ?_))); (case side2 => exact HC1_0.1); rintro e w16 ⟨rfl, hb⟩; replace HO330 := zM (Kd.R_below (zR HO330.1) hb); replace BK323 := zM (zb BK323.1 hb); replace BK324 := zM (zb BK324.1 hb); replace HB := zM (below_step zB1 hb); clear hb; have hcz17 := zc_3 (w := w16) BK323.1))
  go_meet
  case rel => exact ⟨_, ((a1_2 != 0)), zJJ, H', ⟨by first | omega | exact Nat.le_refl _⟩, ⟨zR HO330.1⟩, ⟨zK BK323.1⟩, ⟨zK BK324.1⟩, ⟨zB1⟩⟩
 case rest =>
  clear HC4
  try clear c1
  try clear p2
  try clear c3
  try clear c5
  try clear c7
  try clear c11
  try clear c13
  try clear c14
  try clear c18
  try clear hcz15
  try clear hcz17
  try clear hcz19
  obtain ⟨kq, x28_3, rfl, HA, HJ3, HO_6, BK323, BK324, HB⟩ := hcut
  cases kq with
  | zero => exact absurd HA.1 (by simp [spec_FlatStep.j0])
  | succ kj3 =>
   have H := HA.1
   clear HA
   simp only [spec_FlatStep.j0] at H
   by_cases c21 : x28_3 = true
   ·subst c21
    rw [if_pos rfl] at H
    replace H := zO H
    obtain ⟨⟨t333, t336, t337⟩, A22, H⟩ := H
    try dsimp only at H
    simp only [Option.some.injEq, Prod.mk.injEq] at H
    obtain ⟨rfl, rfl, rfl, rfl⟩ := H
    have hnb23 := NB323_324.1
    have hnc23 := NB324_323.1
    have hcz24 := zc_3 (w := wc) BK323.1
    go_wp2_with (first | ((with_reducible refine zG Try.func80 31 #[.agg #[.slice A1_0 l1_0.length c1_0, .int .i64 a1_1, .int .i64 a1_2]] ?_); (with_reducible refine (spec_l9Copy.calls _ _ l1_0 a1_1 a1_2 t333 t336 t337 _ ?side1 ?side2 A22.1).mono ?_); (case side1 => exact zC (Kd.C_below HR1_0.1 HB.1)); (case side2 => exact HC1_0.1); rintro e w25 ⟨v334, rfl, ho0, hb⟩; refine ⟨_, rfl, ?_⟩; have HO335 := zM (Kd.R_lower (Kd.R_new' ho0 (Kd.R_lt (zR HO_6.1))) (below_size zB1)); replace HO_6 := zM (Kd.R_elder' (zR HO_6.1) (Kd.R_base ho0) hb); replace BK323 := zM (zb BK323.1 hb); replace BK324 := zM (zb BK324.1 hb); replace HB := zM (below_step zB1 hb); clear hb ho0; obtain ⟨Ao26, co26, eo26⟩ := Kd.R_slice HO335.1; subst eo26; have hcz27 := zc_3 (w := w25) BK324.1))
    refine bodyPost_ret (results_tc rfl _ _ gb324 49 #[.slice Ao26 t333.length co26, .int .i64 t336, .int .i64 t337] (0, 0) _ rfl (by exact zp3 (zK BK324.1)) Try.underlying49 rfl (by kernel_rfl)) rfl ?_
    exact ⟨_, _, zE, by refine zrR ?_; exact Kd.R_mono (Kd.R_far (p := ⟨gb324, 2, none⟩) (Kd.R_far (p := ⟨gb324, 1, none⟩) (Kd.R_far (p := ⟨gb324, 0, none⟩) (Kd.R_types HO_6.1 BK324.1 (by decide)) (fun _ hk => hk.2) (.slice Ao26 t333.length co26)) (fun _ hk => hk.2) (.int .i64 t336)) (fun _ hk => hk.2) (.int .i64 t337)) (fun _ hk => hk.1.2), by refine zrR ?_; exact Kd.R_mono (Kd.R_far (p := ⟨gb324, 2, none⟩) (Kd.R_far (p := ⟨gb324, 1, none⟩) (Kd.R_far (p := ⟨gb324, 0, none⟩) (Kd.R_types HO335.1 BK324.1 (by decide)) (fun _ hk => hk.2) (.slice Ao26 t333.length co26)) (fun _ hk => hk.2) (.int .i64 t336)) (fun _ hk => hk.2) (.int .i64 t337)) (fun _ hk => hk.1.2), zB1⟩
   replace c21 := Bool.eq_false_iff.mpr c21
   subst c21
   rw [if_neg zF] at H
   replace H := zIt H
   obtain ⟨c28b0, H⟩ := H
   replace H := zIt H
   obtain ⟨c29b0, H⟩ := H
   replace H := zO H
   obtain ⟨⟨t339, t340, t341, t342, t343, t344⟩, A30, H⟩ := H
   try dsimp only at H
   replace H := zO H
   obtain ⟨t346, A31, H⟩ := H
   by_cases c32 : t346 ≥ 0
   rotate_left
   ·rw [if_neg c32] at H
    have c32b0 := decide_eq_false c32
    clear c32
    replace H := zO H
    obtain ⟨⟨t356, t359, t360, t361⟩, A87, H⟩ := H
    try dsimp only at H
    by_cases c88 : t361 ≥ 0
    rotate_left
    ·rw [if_neg c88] at H
     have c88b0 := decide_eq_false c88
     clear c88
     simp only [Option.some.injEq, Prod.mk.injEq] at H
     obtain ⟨rfl, rfl, rfl, rfl⟩ := H
     have hnb117 := NB323_324.1
     have hnc117 := NB324_323.1
     have hcz118 := zc_3 (w := wc) BK323.1
     have p338 : 0 ≤ (a1_1 : Int) := zA
     have q338 : a1_1 < (l0.length : Int) := zA
     obtain ⟨ad338, e338, hx338_0⟩ := Kd.at_int HR0.1 a1_1 p338 q338
     cases e338
     replace hx338_0 := (HB.1.cell (World.block_lt_of_cell? w _ hx338_0)).trans hx338_0
     replace p338 := eq_true p338
     replace q338 := eq_true q338
     try go_wp2_with (first | ((with_reducible refine zG Try.func77 38 #[.int .i64 (rd l0 a1_1)] ?_); (with_reducible refine (spec_Decode.calls (rd l0 a1_1) t339 t340 t341 t342 t343 t344 _ A30.1).mono ?_); rintro e w119 ⟨rfl, hb⟩; refine ⟨_, rfl, ?_⟩; replace HO_6 := zM (Kd.R_below (zR HO_6.1) hb); replace BK323 := zM (zb BK323.1 hb); replace BK324 := zM (zb BK324.1 hb); replace HB := zM (below_step zB1 hb); clear hb) | ((with_reducible refine zBx 7 71 #[.int .i64 0, .int .i64 0, .int .i64 0, .int .i64 0, .int .i64 0] ?_); intro gb345 hg w120 hbox hb; replace HO_6 := zM (Kd.R_below (zR HO_6.1) hb); have BK345 := zM hbox; have GW345 := zM (zW hg (below_size zB1)); have GE345 := zM (zW hg (below_size zB1)); replace HB := zM (below_step zB1 hb); have NB323_345 := zM ((zn BK323.1 hg : gb323 ≠ gb345)); have NB345_323 := zM ((zm BK323.1 hg : gb345 ≠ gb323)); replace BK323 := zM (zb BK323.1 hb); have NB324_345 := zM ((zn BK324.1 hg : gb324 ≠ gb345)); have NB345_324 := zM ((zm BK324.1 hg : gb345 ≠ gb324)); replace BK324 := zM (zb BK324.1 hb); clear hb hbox hg; have hnb121 := NB345_323.1; have hnc121 := NB323_345.1; have hnb122 := NB345_324.1; have hnc122 := NB324_345.1; have hcz123 := zc_5 (w := w120) BK345.1; have hcz124 := zc_3 (w := w120) BK323.1) | ((with_reducible refine zG Try.func78 44 #[.agg #[.int .i64 t339, .int .i64 t340, .int .i64 t341, .int .i64 t342, .int .i64 t343], .slice A1_0 l1_0.length c1_0] ?_); (with_reducible refine (spec_Target.calls t339 t340 t341 t342 t343 _ _ l1_0 t346 _ ?side1 ?side2 A31.1).mono ?_); (case side1 => exact Kd.C_below HR1_0.1 zB1); (case side2 => exact HC1_0.1); rintro e w125 ⟨rfl, hb⟩; refine ⟨_, rfl, ?_⟩; replace HO_6 := zM (Kd.R_below (by refine zrR ?_; exact (Kd.R_mono (Kd.R_far (p := ⟨gb345, 4, none⟩) (Kd.R_far (p := ⟨gb345, 3, none⟩) (Kd.R_far (p := ⟨gb345, 2, none⟩) (Kd.R_far (p := ⟨gb345, 1, none⟩) (Kd.R_far (p := ⟨gb345, 0, none⟩) (Kd.R_types HO_6.1 BK345.1 (by decide)) (fun _ hk => hk.2) (.int .i64 t339)) (fun _ hk => hk.2) (.int .i64 t340)) (fun _ hk => hk.2) (.int .i64 t341)) (fun _ hk => hk.2) (.int .i64 t342)) (fun _ hk => hk.2) (.int .i64 t343)) (fun _ h_ => h_.1))) hb); replace BK323 := zM (zf BK323.1 hb); replace BK324 := zM (zf BK324.1 hb); replace BK345 := zM (blk_below (g := gb345) (o := .cells #[.int .i64 t339, .int .i64 t340, .int .i64 t341, .int .i64 t342, .int .i64 t343] 71 (0, 0)) (by exact zp5 (zK BK345.1)) hb); replace HB := zM (below_step zB1 hb); clear hb; have hcz126 := zc_3 (w := w125) BK323.1; have hcz127 := zc_5 (w := w125) BK345.1) | ((with_reducible refine zG Try.func79 55 #[.agg #[.slice A1_0 l1_0.length c1_0, .int .i64 a1_1, .int .i64 a1_2], .agg #[.int .i64 t339, .int .i64 t340, .int .i64 t341, .int .i64 t342, .int .i64 t343], .int .i64 0] ?_); (with_reducible refine (spec_Work.calls kj3 _ _ l1_0 a1_1 a1_2 t339 t340 t341 t342 t343 0 t356 t359 t360 t361 _ ?side1 ?side2 A87.1).mono ?_); (case side1 => exact zC (Kd.C_below HR1_0.1 HB.1)); (case side2 => exact HC1_0.1); rintro e w128 ⟨v357, rfl, ho0, hb⟩; refine ⟨_, rfl, ?_⟩; have HO358 := zM (Kd.R_lower (Kd.R_new' ho0 (Kd.R_lt (zR HO_6.1))) (below_size zB1)); replace HO_6 := zM (Kd.R_elder' (zR HO_6.1) (Kd.R_base ho0) hb); replace BK323 := zM (zb BK323.1 hb); replace BK324 := zM (zb BK324.1 hb); replace BK345 := zM (zb BK345.1 hb); replace HB := zM (below_step zB1 hb); clear hb ho0) | ((with_reducible refine zBx 11 49 #[.slice none 0 0, .int .i64 0, .int .i64 0] ?_); intro gb362 hg w129 hbox hb; replace HO_6 := zM (Kd.R_below (zR HO_6.1) hb); replace HO358 := zM (Kd.R_below (zR HO358.1) hb); have BK362 := zM hbox; have GW362 := zM (zW hg (below_size zB1)); have GE362 := zM (zW hg (below_size zB1)); replace HB := zM (below_step zB1 hb); have NB323_362 := zM ((zn BK323.1 hg : gb323 ≠ gb362)); have NB362_323 := zM ((zm BK323.1 hg : gb362 ≠ gb323)); replace BK323 := zM (zb BK323.1 hb); have NB324_362 := zM ((zn BK324.1 hg : gb324 ≠ gb362)); have NB362_324 := zM ((zm BK324.1 hg : gb362 ≠ gb324)); replace BK324 := zM (zb BK324.1 hb); have NB345_362 := zM ((zn BK345.1 hg : gb345 ≠ gb362)); have NB362_345 := zM ((zm BK345.1 hg : gb362 ≠ gb345)); replace BK345 := zM (zb BK345.1 hb); clear hb hbox hg; obtain ⟨Ao130, co130, eo130⟩ := Kd.R_slice HO358.1; subst eo130; have hnb131 := NB362_323.1; have hnc131 := NB323_362.1; have hnb132 := NB362_324.1; have hnc132 := NB324_362.1; have hnb133 := NB362_345.1; have hnc133 := NB345_362.1; have hcz134 := zc_3 (w := w129) BK362.1))
     have n0_ : Aside0 (Kd.R (Kd.int .i64) 3 (((w129.setCell ⟨gb362, 0, none⟩ (.slice Ao130 t356.length co130)).setCell ⟨gb362, 1, none⟩ (.int .i64 t359)).setCell ⟨gb362, 2, none⟩ (.int .i64 t360)) w.heap.size (fun k_ => some k_ ≠ (.slice Ao130 t356.length co130 : Value).ownBlock) v329 y328) := ⟨by refine zrR ?_; exact Kd.R_mono (Kd.R_far (p := ⟨gb362, 2, none⟩) (Kd.R_far (p := ⟨gb362, 1, none⟩) (Kd.R_far (p := ⟨gb362, 0, none⟩) (Kd.R_types HO_6.1 BK362.1 (by decide)) (fun _ hk => hk.2) (.slice Ao130 t356.length co130)) (fun _ hk => hk.2) (.int .i64 t359)) (fun _ hk => hk.2) (.int .i64 t360)) (fun _ hk => hk.1.2)⟩
     have n1_ : Aside0 (Kd.R (Kd.int .i64) 3 (((w129.setCell ⟨gb362, 0, none⟩ (.slice Ao130 t356.length co130)).setCell ⟨gb362, 1, none⟩ (.int .i64 t359)).setCell ⟨gb362, 2, none⟩ (.int .i64 t360)) w.heap.size (fun k_ => some k_ ≠ (v329 : Value).ownBlock) (.slice Ao130 t356.length co130) t356) := ⟨by refine zrR ?_; exact Kd.R_mono (Kd.R_far (p := ⟨gb362, 2, none⟩) (Kd.R_far (p := ⟨gb362, 1, none⟩) (Kd.R_far (p := ⟨gb362, 0, none⟩) (Kd.R_types HO358.1 BK362.1 (by decide)) (fun _ hk => hk.2) (.slice Ao130 t356.length co130)) (fun _ hk => hk.2) (.int .i64 t359)) (fun _ hk => hk.2) (.int .i64 t360)) (fun _ hk => hk.1.2)⟩
     have n2_ : Aside0 ((((w129.setCell ⟨gb362, 0, none⟩ (.slice Ao130 t356.length co130)).setCell ⟨gb362, 1, none⟩ (.int .i64 t359)).setCell ⟨gb362, 2, none⟩ (.int .i64 t360)).heap[gb323]? = some (.cells #[.slice A1_0 l1_0.length c1_0, .int .i64 a1_1, .int .i64 a1_2] 49 (0, 0))) := ⟨by refine zP ?_; refine blk_far ?_ NB323_362.1 _; refine zP ?_; refine blk_far ?_ NB323_362.1 _; refine zP ?_; refine blk_far ?_ NB323_362.1 _; refine zP ?_; exact BK323.1⟩
     have n3_ : Aside0 ((((w129.setCell ⟨gb362, 0, none⟩ (.slice Ao130 t356.length co130)).setCell ⟨gb362, 1, none⟩ (.int .i64 t359)).setCell ⟨gb362, 2, none⟩ (.int .i64 t360)).heap[gb324]? = some (.cells #[.slice none 0 0, .int .i64 0, .int .i64 0] 49 (0, 0))) := ⟨by refine zP ?_; refine blk_far ?_ NB324_362.1 _; refine zP ?_; refine blk_far ?_ NB324_362.1 _; refine zP ?_; refine blk_far ?_ NB324_362.1 _; refine zP ?_; exact BK324.1⟩
     have n4_ : Aside0 ((((w129.setCell ⟨gb362, 0, none⟩ (.slice Ao130 t356.length co130)).setCell ⟨gb362, 1, none⟩ (.int .i64 t359)).setCell ⟨gb362, 2, none⟩ (.int .i64 t360)).heap[gb345]? = some (.cells #[.int .i64 t339, .int .i64 t340, .int .i64 t341, .int .i64 t342, .int .i64 t343] 71 (0, 0))) := ⟨by refine zP ?_; refine blk_far ?_ NB345_362.1 _; refine zP ?_; refine blk_far ?_ NB345_362.1 _; refine zP ?_; refine blk_far ?_ NB345_362.1 _; refine zP ?_; exact BK345.1⟩
     have n5_ : Aside0 ((((w129.setCell ⟨gb362, 0, none⟩ (.slice Ao130 t356.length co130)).setCell ⟨gb362, 1, none⟩ (.int .i64 t359)).setCell ⟨gb362, 2, none⟩ (.int .i64 t360)).heap[gb362]? = some (.cells #[.slice Ao130 t356.length co130, .int .i64 t359, .int .i64 t360] 49 (0, 0))) := ⟨by exact zp3 (zK BK362.1)⟩
     have n6_ : Aside0 (Below w.heap.size w (((w129.setCell ⟨gb362, 0, none⟩ (.slice Ao130 t356.length co130)).setCell ⟨gb362, 1, none⟩ (.int .i64 t359)).setCell ⟨gb362, 2, none⟩ (.int .i64 t360))) := ⟨zB1⟩
     (try clear HO_6)
     (try clear HO358)
     (try clear BK323)
     (try clear BK324)
     (try clear BK345)
     (try clear BK362)
     (try clear HB)
     generalize (((w129.setCell ⟨gb362, 0, none⟩ (.slice Ao130 t356.length co130)).setCell ⟨gb362, 1, none⟩ (.int .i64 t359)).setCell ⟨gb362, 2, none⟩ (.int .i64 t360)) = w135 at n0_ n1_ n2_ n3_ n4_ n5_ n6_ ⊢
     have HO_6 := n0_
     have HO358 := n1_
     have BK323 := n2_
     have BK324 := n3_
     have BK345 := n4_
     have BK362 := n5_
     have HB := n6_
     clear n0_ n1_ n2_ n3_ n4_ n5_ n6_
     replace HO_6 := zM (Kd.R_drew HO_6.1)
     replace HO358 := zM (Kd.R_drew HO358.1)
     replace BK323 := zM (blk_drew BK323.1)
     replace BK324 := zM (blk_drew BK324.1)
     replace BK345 := zM (blk_drew BK345.1)
     replace BK362 := zM (blk_drew BK362.1)
     replace HB := zM (below_drew1 HB.1)
     refine start_ (n := 4) (S := fun w' => w'.cell? ⟨gb362, 0, none⟩ = some (.slice Ao130 t356.length co130) ∧ w'.cell? ⟨gb362, 1, none⟩ = some (.int .i64 t359) ∧ w'.cell? ⟨gb362, 2, none⟩ = some (.int .i64 t360)) (ds := []) #[false, false, false, false] (by kernel_rfl) rfl rfl ⟨(blk_cell BK362.1 0).trans rfl, (blk_cell BK362.1 1).trans rfl, (blk_cell BK362.1 2).trans rfl⟩ (fun hHeld => ?_)
     generalize w135.drew = w136 at HO_6 HO358 BK323 BK324 BK345 BK362 HB hHeld ⊢
     refine zPu 0 ?_
     refine zPu 2 ?_
     refine zTk3 1 hHeld ?_
     refine zOn 3 none fun K hK => ?_
     obtain ⟨hs137, hfs137⟩ := zHs BK324.1 0
     have hns137_0 := NB323_324.1
     have hns137_2 := NB345_324.1
     have hns137_3 := NB362_324.1
     have hms137_0 := NB324_323.1
     have hms137_2 := NB324_345.1
     have hms137_3 := NB324_362.1
     obtain ⟨hs138, hfs138⟩ := zHs BK324.1 1
     have hns138_0 := NB323_324.1
     have hns138_2 := NB345_324.1
     have hns138_3 := NB362_324.1
     have hms138_0 := NB324_323.1
     have hms138_2 := NB324_345.1
     have hms138_3 := NB324_362.1
     obtain ⟨hs139, hfs139⟩ := zHs BK324.1 2
     have hns139_0 := NB323_324.1
     have hns139_2 := NB345_324.1
     have hns139_3 := NB362_324.1
     have hms139_0 := NB324_323.1
     have hms139_2 := NB324_345.1
     have hms139_3 := NB324_362.1
     refine skip_ (w1 := ?_) (by rfl) rfl ?_ ?_
     rotate_left
     ·go_simp
      rfl
     refine hK.out _ _ zCs fun hHeld => ?_
     clear hK K
     refine done_ (by kernel_rfl) ?_
     try go_wp2
     refine bodyPost_ret (results_tc rfl _ _ gb324 49 #[.slice Ao130 t356.length co130, .int .i64 t359, .int .i64 t360] (0, 0) _ rfl (by exact zp3 (zK BK324.1)) Try.underlying49 rfl (by kernel_rfl)) rfl ?_
     exact ⟨_, _, zE, by refine zrR ?_; exact Kd.R_mono (Kd.R_far (p := ⟨gb324, 2, none⟩) (Kd.R_far (p := ⟨gb324, 1, none⟩) (Kd.R_far (p := ⟨gb324, 0, none⟩) (Kd.R_types HO_6.1 BK324.1 (by decide)) (fun _ hk => hk.2) (.slice Ao130 t356.length co130)) (fun _ hk => hk.2) (.int .i64 t359)) (fun _ hk => hk.2) (.int .i64 t360)) (fun _ hk => hk.1), by refine zrR ?_; exact Kd.R_mono (Kd.R_far (p := ⟨gb324, 2, none⟩) (Kd.R_far (p := ⟨gb324, 1, none⟩) (Kd.R_far (p := ⟨gb324, 0, none⟩) (Kd.R_types HO358.1 BK324.1 (by decide)) (fun _ hk => hk.2) (.slice Ao130 t356.length co130)) (fun _ hk => hk.2) (.int .i64 t359)) (fun _ hk => hk.2) (.int .i64 t360)) (fun _ hk => hk.1), zB1⟩
    rw [if_pos c88] at H
    have c88b0 := decide_eq_true c88
    clear c88
    replace H := zIt H
    obtain ⟨c89b0, H⟩ := H
    replace H := zIt H
    obtain ⟨c90b0, H⟩ := H
    obtain ⟨y363, hy363⟩ : ∃ y_ : List Int, y_ = (y328.set (t346 : Int).toNat t361) := ⟨_, rfl⟩
    replace H : (some (y363, t356, t359, t360)) = some (r1, r2, r3, r4) := by first | (rw [hy363]; with_reducible exact H) | (have H2_ := (Option.bind_some _ _).symm.trans H; rw [hy363]; with_reducible exact H2_) | (have H2_ := (Option.bind_some _ _).symm.trans H; with_reducible exact H2_) | with_reducible exact H | (rw [hy363]; exact H) | exact H
    have Ny363 := zM hy363
    clear hy363
    simp only [Option.some.injEq, Prod.mk.injEq] at H
    obtain ⟨rfl, rfl, rfl, rfl⟩ := H
    have hnb92 := NB323_324.1
    have hnc92 := NB324_323.1
    have hcz93 := zc_3 (w := wc) BK323.1
    have p338 : 0 ≤ (a1_1 : Int) := zA
    have q338 : a1_1 < (l0.length : Int) := zA
    obtain ⟨ad338, e338, hx338_0⟩ := Kd.at_int HR0.1 a1_1 p338 q338
    cases e338
    replace hx338_0 := (HB.1.cell (World.block_lt_of_cell? w _ hx338_0)).trans hx338_0
    replace p338 := eq_true p338
    replace q338 := eq_true q338
    try go_wp2_with (first | ((with_reducible refine zG Try.func77 38 #[.int .i64 (rd l0 a1_1)] ?_); (with_reducible refine (spec_Decode.calls (rd l0 a1_1) t339 t340 t341 t342 t343 t344 _ A30.1).mono ?_); rintro e w94 ⟨rfl, hb⟩; refine ⟨_, rfl, ?_⟩; replace HO_6 := zM (Kd.R_below (zR HO_6.1) hb); replace BK323 := zM (zb BK323.1 hb); replace BK324 := zM (zb BK324.1 hb); replace HB := zM (below_step zB1 hb); clear hb) | ((with_reducible refine zBx 7 71 #[.int .i64 0, .int .i64 0, .int .i64 0, .int .i64 0, .int .i64 0] ?_); intro gb345 hg w95 hbox hb; replace HO_6 := zM (Kd.R_below (zR HO_6.1) hb); have BK345 := zM hbox; have GW345 := zM (zW hg (below_size zB1)); have GE345 := zM (zW hg (below_size zB1)); replace HB := zM (below_step zB1 hb); have NB323_345 := zM ((zn BK323.1 hg : gb323 ≠ gb345)); have NB345_323 := zM ((zm BK323.1 hg : gb345 ≠ gb323)); replace BK323 := zM (zb BK323.1 hb); have NB324_345 := zM ((zn BK324.1 hg : gb324 ≠ gb345)); have NB345_324 := zM ((zm BK324.1 hg : gb345 ≠ gb324)); replace BK324 := zM (zb BK324.1 hb); clear hb hbox hg; have hnb96 := NB345_323.1; have hnc96 := NB323_345.1; have hnb97 := NB345_324.1; have hnc97 := NB324_345.1; have hcz98 := zc_5 (w := w95) BK345.1; have hcz99 := zc_3 (w := w95) BK323.1) | ((with_reducible refine zG Try.func78 44 #[.agg #[.int .i64 t339, .int .i64 t340, .int .i64 t341, .int .i64 t342, .int .i64 t343], .slice A1_0 l1_0.length c1_0] ?_); (with_reducible refine (spec_Target.calls t339 t340 t341 t342 t343 _ _ l1_0 t346 _ ?side1 ?side2 A31.1).mono ?_); (case side1 => exact Kd.C_below HR1_0.1 zB1); (case side2 => exact HC1_0.1); rintro e w100 ⟨rfl, hb⟩; refine ⟨_, rfl, ?_⟩; replace HO_6 := zM (Kd.R_below (by refine zrR ?_; exact (Kd.R_mono (Kd.R_far (p := ⟨gb345, 4, none⟩) (Kd.R_far (p := ⟨gb345, 3, none⟩) (Kd.R_far (p := ⟨gb345, 2, none⟩) (Kd.R_far (p := ⟨gb345, 1, none⟩) (Kd.R_far (p := ⟨gb345, 0, none⟩) (Kd.R_types HO_6.1 BK345.1 (by decide)) (fun _ hk => hk.2) (.int .i64 t339)) (fun _ hk => hk.2) (.int .i64 t340)) (fun _ hk => hk.2) (.int .i64 t341)) (fun _ hk => hk.2) (.int .i64 t342)) (fun _ hk => hk.2) (.int .i64 t343)) (fun _ h_ => h_.1))) hb); replace BK323 := zM (zf BK323.1 hb); replace BK324 := zM (zf BK324.1 hb); replace BK345 := zM (blk_below (g := gb345) (o := .cells #[.int .i64 t339, .int .i64 t340, .int .i64 t341, .int .i64 t342, .int .i64 t343] 71 (0, 0)) (by exact zp5 (zK BK345.1)) hb); replace HB := zM (below_step zB1 hb); clear hb; have hcz101 := zc_3 (w := w100) BK323.1; have hcz102 := zc_5 (w := w100) BK345.1) | ((with_reducible refine zG Try.func79 55 #[.agg #[.slice A1_0 l1_0.length c1_0, .int .i64 a1_1, .int .i64 a1_2], .agg #[.int .i64 t339, .int .i64 t340, .int .i64 t341, .int .i64 t342, .int .i64 t343], .int .i64 0] ?_); (with_reducible refine (spec_Work.calls kj3 _ _ l1_0 a1_1 a1_2 t339 t340 t341 t342 t343 0 t356 t359 t360 t361 _ ?side1 ?side2 A87.1).mono ?_); (case side1 => exact zC (Kd.C_below HR1_0.1 HB.1)); (case side2 => exact HC1_0.1); rintro e w103 ⟨v357, rfl, ho0, hb⟩; refine ⟨_, rfl, ?_⟩; have HO358 := zM (Kd.R_lower (Kd.R_new' ho0 (Kd.R_lt (zR HO_6.1))) (below_size zB1)); replace HO_6 := zM (Kd.R_elder' (zR HO_6.1) (Kd.R_base ho0) hb); replace BK323 := zM (zb BK323.1 hb); replace BK324 := zM (zb BK324.1 hb); replace BK345 := zM (zb BK345.1 hb); replace HB := zM (below_step zB1 hb); clear hb ho0) | ((with_reducible refine zBx 11 49 #[.slice none 0 0, .int .i64 0, .int .i64 0] ?_); intro gb362 hg w104 hbox hb; replace HO_6 := zM (Kd.R_below (zR HO_6.1) hb); replace HO358 := zM (Kd.R_below (zR HO358.1) hb); have BK362 := zM hbox; have GW362 := zM (zW hg (below_size zB1)); have GE362 := zM (zW hg (below_size zB1)); replace HB := zM (below_step zB1 hb); have NB323_362 := zM ((zn BK323.1 hg : gb323 ≠ gb362)); have NB362_323 := zM ((zm BK323.1 hg : gb362 ≠ gb323)); replace BK323 := zM (zb BK323.1 hb); have NB324_362 := zM ((zn BK324.1 hg : gb324 ≠ gb362)); have NB362_324 := zM ((zm BK324.1 hg : gb362 ≠ gb324)); replace BK324 := zM (zb BK324.1 hb); have NB345_362 := zM ((zn BK345.1 hg : gb345 ≠ gb362)); have NB362_345 := zM ((zm BK345.1 hg : gb362 ≠ gb345)); replace BK345 := zM (zb BK345.1 hb); clear hb hbox hg; obtain ⟨Ao105, co105, eo105⟩ := Kd.R_slice HO358.1; subst eo105; have hnb106 := NB362_323.1; have hnc106 := NB323_362.1; have hnb107 := NB362_324.1; have hnc107 := NB324_362.1; have hnb108 := NB362_345.1; have hnc108 := NB345_362.1; have hcz109 := zc_3 (w := w104) BK362.1) | ((with_reducible refine gate_store (t := 49) (p := 11) rfl ?_); refine store_event (t := 49) (p := 11) (v := ?vo_w110) (w1 := (((w104.setCell ⟨gb362, 0, none⟩ (.slice Ao105 t356.length co105)).setCell ⟨gb362, 1, none⟩ (.int .i64 t359)).setCell ⟨gb362, 2, none⟩ (.int .i64 t360))) ?hg ?ho ?hn ?hr ?_; (case ho => rfl); (case hg => rfl); (case hn => rfl); (case hr => exact zHH); intro w110 hw; have n0_ : Aside0 (Kd.R (Kd.int .i64) 3 w110 w.heap.size (fun k_ => some k_ ≠ (.slice Ao105 t356.length co105 : Value).ownBlock) v329 y328) := ⟨(by rw [hw]; exact (by refine zrR ?_; exact Kd.R_mono (Kd.R_far (p := ⟨gb362, 2, none⟩) (Kd.R_far (p := ⟨gb362, 1, none⟩) (Kd.R_far (p := ⟨gb362, 0, none⟩) (Kd.R_types HO_6.1 BK362.1 (by decide)) (fun _ hk => hk.2) (.slice Ao105 t356.length co105)) (fun _ hk => hk.2) (.int .i64 t359)) (fun _ hk => hk.2) (.int .i64 t360)) (fun _ hk => hk.1.2)))⟩; have n1_ : Aside0 (Kd.R (Kd.int .i64) 3 w110 w.heap.size (fun k_ => some k_ ≠ (v329 : Value).ownBlock) (.slice Ao105 t356.length co105) t356) := ⟨(by rw [hw]; exact (by refine zrR ?_; exact Kd.R_mono (Kd.R_far (p := ⟨gb362, 2, none⟩) (Kd.R_far (p := ⟨gb362, 1, none⟩) (Kd.R_far (p := ⟨gb362, 0, none⟩) (Kd.R_types HO358.1 BK362.1 (by decide)) (fun _ hk => hk.2) (.slice Ao105 t356.length co105)) (fun _ hk => hk.2) (.int .i64 t359)) (fun _ hk => hk.2) (.int .i64 t360)) (fun _ hk => hk.1.2)))⟩; have n2_ : Aside0 (w110.heap[gb323]? = some (.cells #[.slice A1_0 l1_0.length c1_0, .int .i64 a1_1, .int .i64 a1_2] 49 (0, 0))) := ⟨(by rw [hw]; exact (by refine zP ?_; refine blk_far ?_ NB323_362.1 _; refine zP ?_; refine blk_far ?_ NB323_362.1 _; refine zP ?_; refine blk_far ?_ NB323_362.1 _; refine zP ?_; exact BK323.1))⟩; have n3_ : Aside0 (w110.heap[gb324]? = some (.cells #[.slice none 0 0, .int .i64 0, .int .i64 0] 49 (0, 0))) := ⟨(by rw [hw]; exact (by refine zP ?_; refine blk_far ?_ NB324_362.1 _; refine zP ?_; refine blk_far ?_ NB324_362.1 _; refine zP ?_; refine blk_far ?_ NB324_362.1 _; refine zP ?_; exact BK324.1))⟩; have n4_ : Aside0 (w110.heap[gb345]? = some (.cells #[.int .i64 t339, .int .i64 t340, .int .i64 t341, .int .i64 t342, .int .i64 t343] 71 (0, 0))) := ⟨(by rw [hw]; exact (by refine zP ?_; refine blk_far ?_ NB345_362.1 _; refine zP ?_; refine blk_far ?_ NB345_362.1 _; refine zP ?_; refine blk_far ?_ NB345_362.1 _; refine zP ?_; exact BK345.1))⟩; have n5_ : Aside0 (w110.heap[gb362]? = some (.cells #[.slice Ao105 t356.length co105, .int .i64 t359, .int .i64 t360] 49 (0, 0))) := ⟨(by rw [hw]; exact (by exact zp3 (zK BK362.1)))⟩; have n6_ : Aside0 (Below w.heap.size w w110) := ⟨(by rw [hw]; exact zB1)⟩; clear hw; clear HO_6; clear HO358; clear BK323; clear BK324; clear BK345; clear BK362; clear HB; have HO_6 := n0_; have HO358 := n1_; have BK323 := n2_; have BK324 := n3_; have BK345 := n4_; have BK362 := n5_; have HB := n6_; clear n0_ n1_ n2_ n3_ n4_ n5_ n6_; have p91 : 0 ≤ (t346 : Int) := zA; have q91 : (t346 : Int) < ((y328.length : Int) : Int) := zA; obtain ⟨go91, co91, eo91, gb91, gl91, cl91, HG91⟩ := Kd.R_form HO_6.1 (by omega); (first | cases eo91 | (injection eo91 with ea_ en_ ec_; (first | subst ea_ | (injection ea_ with ea_; subst ea_)); subst ec_; clear en_)); have GB91 := zM gb91; have GG91 := zM HG91; clear gb91 gl91 HG91; obtain ⟨hx91_0, hf91_0⟩ := Kd.R_celln 0 HO_6.1 (t346 : Int) p91 q91; replace p91 := eq_true p91; replace q91 := eq_true q91; obtain ⟨hy111_, hz111_⟩ := Kd.R_celln 0 HO_6.1 (t346 : Int) zA zA; have HP111 := Kd.R_putg HO_6.1 (t346 : Int) t361) | ((with_reducible refine gate_store (t := 3) (p := 63) rfl ?_); refine store_event (t := 3) (p := 63) (v := ?vo_w112) (w1 := (w110.setCell ⟨go91, (t346 : Int).toNat, none⟩ (.int .i64 t361))) ?hg ?ho ?hn ?hr ?_; (case ho => rfl); (case hg => rfl); (case hn => rfl); (case hr => exact zHH); intro w112 hw; have hg : w110.grownBy w112 (some go91) := (by rw [hw]; exact HP111.2); have hp_ : Kd.R (Kd.int .i64) 3 w112 w.heap.size (fun k_ => some k_ ≠ (.slice Ao105 t356.length co105 : Value).ownBlock) (.slice (some ⟨go91, 0, none⟩) y328.length co91) y363 := (by rw [hw, Ny363.1]; exact HP111.1); clear HP111; replace BK323 := zM (zg BK323.1 hg (Kd.R_ne HO_6.1 BK323.1 (by decide))); replace BK324 := zM (zg BK324.1 hg (Kd.R_ne HO_6.1 BK324.1 (by decide))); replace BK345 := zM (zg BK345.1 hg (Kd.R_ne HO_6.1 BK345.1 (by decide))); replace HO358 := zM (Kd.R_after (v := (.slice (some ⟨go91, 0, none⟩) y328.length co91)) (v1 := (.slice (some ⟨go91, 0, none⟩) y328.length co91)) (ok := (fun _ => True)) (by refine zrR ?_; exact Kd.R_mono HO358.1 (fun _ hk => ⟨trivial, hk⟩)) hg (.inl rfl)); replace BK362 := zM (zg BK362.1 hg (Kd.R_ne HO_6.1 BK362.1 (by decide))); replace HO_6 := zM hp_; replace HB := zM ((by rw [hw]; exact below_set (HB.1) GB91.1 : Below w.heap.size w w112)); clear hg hw hp_))
    replace HO_6 := zM (Kd.R_drew HO_6.1)
    replace HO358 := zM (Kd.R_drew HO358.1)
    replace BK323 := zM (blk_drew BK323.1)
    replace BK324 := zM (blk_drew BK324.1)
    replace BK345 := zM (blk_drew BK345.1)
    replace BK362 := zM (blk_drew BK362.1)
    replace HB := zM (below_drew1 HB.1)
    refine start_ (n := 4) (S := fun w' => w'.cell? ⟨gb362, 0, none⟩ = some (.slice Ao105 t356.length co105) ∧ w'.cell? ⟨gb362, 1, none⟩ = some (.int .i64 t359) ∧ w'.cell? ⟨gb362, 2, none⟩ = some (.int .i64 t360)) (ds := []) #[false, false, false, false] (by kernel_rfl) rfl rfl ⟨(blk_cell BK362.1 0).trans rfl, (blk_cell BK362.1 1).trans rfl, (blk_cell BK362.1 2).trans rfl⟩ (fun hHeld => ?_)
    generalize w112.drew = w113 at HO_6 HO358 BK323 BK324 BK345 BK362 HB hHeld ⊢
    refine zPu 0 ?_
    refine zPu 2 ?_
    refine zTk3 1 hHeld ?_
    refine zOn 3 none fun K hK => ?_
    obtain ⟨hs114, hfs114⟩ := zHs BK324.1 0
    have hns114_0 := NB323_324.1
    have hns114_2 := NB345_324.1
    have hns114_3 := NB362_324.1
    have hms114_0 := NB324_323.1
    have hms114_2 := NB324_345.1
    have hms114_3 := NB324_362.1
    obtain ⟨hs115, hfs115⟩ := zHs BK324.1 1
    have hns115_0 := NB323_324.1
    have hns115_2 := NB345_324.1
    have hns115_3 := NB362_324.1
    have hms115_0 := NB324_323.1
    have hms115_2 := NB324_345.1
    have hms115_3 := NB324_362.1
    obtain ⟨hs116, hfs116⟩ := zHs BK324.1 2
    have hns116_0 := NB323_324.1
    have hns116_2 := NB345_324.1
    have hns116_3 := NB362_324.1
    have hms116_0 := NB324_323.1
    have hms116_2 := NB324_345.1
    have hms116_3 := NB324_362.1
    refine skip_ (w1 := ?_) (by rfl) rfl ?_ ?_
    rotate_left
    ·go_simp
     rfl
    refine hK.out _ _ zCs fun hHeld => ?_
    clear hK K
    refine done_ (by kernel_rfl) ?_
    try go_wp2
    refine bodyPost_ret (results_tc rfl _ _ gb324 49 #[.slice Ao105 t356.length co105, .int .i64 t359, .int .i64 t360] (0, 0) _ rfl (by exact zp3 (zK BK324.1)) Try.underlying49 rfl (by kernel_rfl)) rfl ?_
    exact ⟨_, _, zE, by refine zrR ?_; exact Kd.R_mono (Kd.R_far (p := ⟨gb324, 2, none⟩) (Kd.R_far (p := ⟨gb324, 1, none⟩) (Kd.R_far (p := ⟨gb324, 0, none⟩) (Kd.R_types HO_6.1 BK324.1 (by decide)) (fun _ hk => hk.2) (.slice Ao105 t356.length co105)) (fun _ hk => hk.2) (.int .i64 t359)) (fun _ hk => hk.2) (.int .i64 t360)) (fun _ hk => hk.1), by refine zrR ?_; exact Kd.R_mono (Kd.R_far (p := ⟨gb324, 2, none⟩) (Kd.R_far (p := ⟨gb324, 1, none⟩) (Kd.R_far (p := ⟨gb324, 0, none⟩) (Kd.R_types HO358.1 BK324.1 (by decide)) (fun _ hk => hk.2) (.slice Ao105 t356.length co105)) (fun _ hk => hk.2) (.int .i64 t359)) (fun _ hk => hk.2) (.int .i64 t360)) (fun _ hk => hk.1.2), zB1⟩
   rw [if_pos c32] at H
   have c32b0 := decide_eq_true c32
   clear c32
   replace H := zIt H
   obtain ⟨c33b0, H⟩ := H
   replace H := zIt H
   obtain ⟨c34b0, H⟩ := H
   replace H := zO H
   obtain ⟨⟨t348, t351, t352, t353⟩, A35, H⟩ := H
   try dsimp only at H
   by_cases c36 : t353 ≥ 0
   rotate_left
   ·rw [if_neg c36] at H
    have c36b0 := decide_eq_false c36
    clear c36
    simp only [Option.some.injEq, Prod.mk.injEq] at H
    obtain ⟨rfl, rfl, rfl, rfl⟩ := H
    have hnb64 := NB323_324.1
    have hnc64 := NB324_323.1
    have hcz65 := zc_3 (w := wc) BK323.1
    have p338 : 0 ≤ (a1_1 : Int) := zA
    have q338 : a1_1 < (l0.length : Int) := zA
    obtain ⟨ad338, e338, hx338_0⟩ := Kd.at_int HR0.1 a1_1 p338 q338
    cases e338
    replace hx338_0 := (HB.1.cell (World.block_lt_of_cell? w _ hx338_0)).trans hx338_0
    replace p338 := eq_true p338
    replace q338 := eq_true q338
    try go_wp2_with (first | ((with_reducible refine zG Try.func77 38 #[.int .i64 (rd l0 a1_1)] ?_); (with_reducible refine (spec_Decode.calls (rd l0 a1_1) t339 t340 t341 t342 t343 t344 _ A30.1).mono ?_); rintro e w66 ⟨rfl, hb⟩; refine ⟨_, rfl, ?_⟩; replace HO_6 := zM (Kd.R_below (zR HO_6.1) hb); replace BK323 := zM (zb BK323.1 hb); replace BK324 := zM (zb BK324.1 hb); replace HB := zM (below_step zB1 hb); clear hb) | ((with_reducible refine zBx 7 71 #[.int .i64 0, .int .i64 0, .int .i64 0, .int .i64 0, .int .i64 0] ?_); intro gb345 hg w67 hbox hb; replace HO_6 := zM (Kd.R_below (zR HO_6.1) hb); have BK345 := zM hbox; have GW345 := zM (zW hg (below_size zB1)); have GE345 := zM (zW hg (below_size zB1)); replace HB := zM (below_step zB1 hb); have NB323_345 := zM ((zn BK323.1 hg : gb323 ≠ gb345)); have NB345_323 := zM ((zm BK323.1 hg : gb345 ≠ gb323)); replace BK323 := zM (zb BK323.1 hb); have NB324_345 := zM ((zn BK324.1 hg : gb324 ≠ gb345)); have NB345_324 := zM ((zm BK324.1 hg : gb345 ≠ gb324)); replace BK324 := zM (zb BK324.1 hb); clear hb hbox hg; have hnb68 := NB345_323.1; have hnc68 := NB323_345.1; have hnb69 := NB345_324.1; have hnc69 := NB324_345.1; have hcz70 := zc_5 (w := w67) BK345.1; have hcz71 := zc_3 (w := w67) BK323.1) | ((with_reducible refine zG Try.func78 44 #[.agg #[.int .i64 t339, .int .i64 t340, .int .i64 t341, .int .i64 t342, .int .i64 t343], .slice A1_0 l1_0.length c1_0] ?_); (with_reducible refine (spec_Target.calls t339 t340 t341 t342 t343 _ _ l1_0 t346 _ ?side1 ?side2 A31.1).mono ?_); (case side1 => exact Kd.C_below HR1_0.1 zB1); (case side2 => exact HC1_0.1); rintro e w72 ⟨rfl, hb⟩; refine ⟨_, rfl, ?_⟩; replace HO_6 := zM (Kd.R_below (by refine zrR ?_; exact (Kd.R_mono (Kd.R_far (p := ⟨gb345, 4, none⟩) (Kd.R_far (p := ⟨gb345, 3, none⟩) (Kd.R_far (p := ⟨gb345, 2, none⟩) (Kd.R_far (p := ⟨gb345, 1, none⟩) (Kd.R_far (p := ⟨gb345, 0, none⟩) (Kd.R_types HO_6.1 BK345.1 (by decide)) (fun _ hk => hk.2) (.int .i64 t339)) (fun _ hk => hk.2) (.int .i64 t340)) (fun _ hk => hk.2) (.int .i64 t341)) (fun _ hk => hk.2) (.int .i64 t342)) (fun _ hk => hk.2) (.int .i64 t343)) (fun _ h_ => h_.1))) hb); replace BK323 := zM (zf BK323.1 hb); replace BK324 := zM (zf BK324.1 hb); replace BK345 := zM (blk_below (g := gb345) (o := .cells #[.int .i64 t339, .int .i64 t340, .int .i64 t341, .int .i64 t342, .int .i64 t343] 71 (0, 0)) (by exact zp5 (zK BK345.1)) hb); replace HB := zM (below_step zB1 hb); clear hb; have p347 : 0 ≤ (t346 : Int) := zA; have q347 : t346 < (l0.length : Int) := zA; obtain ⟨ad347, e347, hx347_0⟩ := Kd.at_int HR0.1 t346 p347 q347; obtain rfl : ad338 = ad347 := (by injection e347); replace hx347_0 := (HB.1.cell (World.block_lt_of_cell? w _ hx347_0)).trans hx347_0; replace p347 := eq_true p347; replace q347 := eq_true q347; have hcz73 := zc_3 (w := w72) BK323.1; have hcz74 := zc_5 (w := w72) BK345.1) | ((with_reducible refine zG Try.func79 55 #[.agg #[.slice A1_0 l1_0.length c1_0, .int .i64 a1_1, .int .i64 a1_2], .agg #[.int .i64 t339, .int .i64 t340, .int .i64 t341, .int .i64 t342, .int .i64 t343], .int .i64 (rd l0 t346)] ?_); (with_reducible refine (spec_Work.calls kj3 _ _ l1_0 a1_1 a1_2 t339 t340 t341 t342 t343 (rd l0 t346) t348 t351 t352 t353 _ ?side1 ?side2 A35.1).mono ?_); (case side1 => exact zC (Kd.C_below HR1_0.1 HB.1)); (case side2 => exact HC1_0.1); rintro e w75 ⟨v349, rfl, ho0, hb⟩; refine ⟨_, rfl, ?_⟩; have HO350 := zM (Kd.R_lower (Kd.R_new' ho0 (Kd.R_lt (zR HO_6.1))) (below_size zB1)); replace HO_6 := zM (Kd.R_elder' (zR HO_6.1) (Kd.R_base ho0) hb); replace BK323 := zM (zb BK323.1 hb); replace BK324 := zM (zb BK324.1 hb); replace BK345 := zM (zb BK345.1 hb); replace HB := zM (below_step zB1 hb); clear hb ho0) | ((with_reducible refine zBx 11 49 #[.slice none 0 0, .int .i64 0, .int .i64 0] ?_); intro gb354 hg w76 hbox hb; replace HO_6 := zM (Kd.R_below (zR HO_6.1) hb); replace HO350 := zM (Kd.R_below (zR HO350.1) hb); have BK354 := zM hbox; have GW354 := zM (zW hg (below_size zB1)); have GE354 := zM (zW hg (below_size zB1)); replace HB := zM (below_step zB1 hb); have NB323_354 := zM ((zn BK323.1 hg : gb323 ≠ gb354)); have NB354_323 := zM ((zm BK323.1 hg : gb354 ≠ gb323)); replace BK323 := zM (zb BK323.1 hb); have NB324_354 := zM ((zn BK324.1 hg : gb324 ≠ gb354)); have NB354_324 := zM ((zm BK324.1 hg : gb354 ≠ gb324)); replace BK324 := zM (zb BK324.1 hb); have NB345_354 := zM ((zn BK345.1 hg : gb345 ≠ gb354)); have NB354_345 := zM ((zm BK345.1 hg : gb354 ≠ gb345)); replace BK345 := zM (zb BK345.1 hb); clear hb hbox hg; obtain ⟨Ao77, co77, eo77⟩ := Kd.R_slice HO350.1; subst eo77; have hnb78 := NB354_323.1; have hnc78 := NB323_354.1; have hnb79 := NB354_324.1; have hnc79 := NB324_354.1; have hnb80 := NB354_345.1; have hnc80 := NB345_354.1; have hcz81 := zc_3 (w := w76) BK354.1))
    have n0_ : Aside0 (Kd.R (Kd.int .i64) 3 (((w76.setCell ⟨gb354, 0, none⟩ (.slice Ao77 t348.length co77)).setCell ⟨gb354, 1, none⟩ (.int .i64 t351)).setCell ⟨gb354, 2, none⟩ (.int .i64 t352)) w.heap.size (fun k_ => some k_ ≠ (.slice Ao77 t348.length co77 : Value).ownBlock) v329 y328) := ⟨by refine zrR ?_; exact Kd.R_mono (Kd.R_far (p := ⟨gb354, 2, none⟩) (Kd.R_far (p := ⟨gb354, 1, none⟩) (Kd.R_far (p := ⟨gb354, 0, none⟩) (Kd.R_types HO_6.1 BK354.1 (by decide)) (fun _ hk => hk.2) (.slice Ao77 t348.length co77)) (fun _ hk => hk.2) (.int .i64 t351)) (fun _ hk => hk.2) (.int .i64 t352)) (fun _ hk => hk.1.2)⟩
    have n1_ : Aside0 (Kd.R (Kd.int .i64) 3 (((w76.setCell ⟨gb354, 0, none⟩ (.slice Ao77 t348.length co77)).setCell ⟨gb354, 1, none⟩ (.int .i64 t351)).setCell ⟨gb354, 2, none⟩ (.int .i64 t352)) w.heap.size (fun k_ => some k_ ≠ (v329 : Value).ownBlock) (.slice Ao77 t348.length co77) t348) := ⟨by refine zrR ?_; exact Kd.R_mono (Kd.R_far (p := ⟨gb354, 2, none⟩) (Kd.R_far (p := ⟨gb354, 1, none⟩) (Kd.R_far (p := ⟨gb354, 0, none⟩) (Kd.R_types HO350.1 BK354.1 (by decide)) (fun _ hk => hk.2) (.slice Ao77 t348.length co77)) (fun _ hk => hk.2) (.int .i64 t351)) (fun _ hk => hk.2) (.int .i64 t352)) (fun _ hk => hk.1.2)⟩
    have n2_ : Aside0 ((((w76.setCell ⟨gb354, 0, none⟩ (.slice Ao77 t348.length co77)).setCell ⟨gb354, 1, none⟩ (.int .i64 t351)).setCell ⟨gb354, 2, none⟩ (.int .i64 t352)).heap[gb323]? = some (.cells #[.slice A1_0 l1_0.length c1_0, .int .i64 a1_1, .int .i64 a1_2] 49 (0, 0))) := ⟨by refine zP ?_; refine blk_far ?_ NB323_354.1 _; refine zP ?_; refine blk_far ?_ NB323_354.1 _; refine zP ?_; refine blk_far ?_ NB323_354.1 _; refine zP ?_; exact BK323.1⟩
    have n3_ : Aside0 ((((w76.setCell ⟨gb354, 0, none⟩ (.slice Ao77 t348.length co77)).setCell ⟨gb354, 1, none⟩ (.int .i64 t351)).setCell ⟨gb354, 2, none⟩ (.int .i64 t352)).heap[gb324]? = some (.cells #[.slice none 0 0, .int .i64 0, .int .i64 0] 49 (0, 0))) := ⟨by refine zP ?_; refine blk_far ?_ NB324_354.1 _; refine zP ?_; refine blk_far ?_ NB324_354.1 _; refine zP ?_; refine blk_far ?_ NB324_354.1 _; refine zP ?_; exact BK324.1⟩
    have n4_ : Aside0 ((((w76.setCell ⟨gb354, 0, none⟩ (.slice Ao77 t348.length co77)).setCell ⟨gb354, 1, none⟩ (.int .i64 t351)).setCell ⟨gb354, 2, none⟩ (.int .i64 t352)).heap[gb345]? = some (.cells #[.int .i64 t339, .int .i64 t340, .int .i64 t341, .int .i64 t342, .int .i64 t343] 71 (0, 0))) := ⟨by refine zP ?_; refine blk_far ?_ NB345_354.1 _; refine zP ?_; refine blk_far ?_ NB345_354.1 _; refine zP ?_; refine blk_far ?_ NB345_354.1 _; refine zP ?_; exact BK345.1⟩
    have n5_ : Aside0 ((((w76.setCell ⟨gb354, 0, none⟩ (.slice Ao77 t348.length co77)).setCell ⟨gb354, 1, none⟩ (.int .i64 t351)).setCell ⟨gb354, 2, none⟩ (.int .i64 t352)).heap[gb354]? = some (.cells #[.slice Ao77 t348.length co77, .int .i64 t351, .int .i64 t352] 49 (0, 0))) := ⟨by exact zp3 (zK BK354.1)⟩
    have n6_ : Aside0 (Below w.heap.size w (((w76.setCell ⟨gb354, 0, none⟩ (.slice Ao77 t348.length co77)).setCell ⟨gb354, 1, none⟩ (.int .i64 t351)).setCell ⟨gb354, 2, none⟩ (.int .i64 t352))) := ⟨zB1⟩
    (try clear HO_6)
    (try clear HO350)
    (try clear BK323)
    (try clear BK324)
    (try clear BK345)
    (try clear BK354)
    (try clear HB)
    generalize (((w76.setCell ⟨gb354, 0, none⟩ (.slice Ao77 t348.length co77)).setCell ⟨gb354, 1, none⟩ (.int .i64 t351)).setCell ⟨gb354, 2, none⟩ (.int .i64 t352)) = w82 at n0_ n1_ n2_ n3_ n4_ n5_ n6_ ⊢
    have HO_6 := n0_
    have HO350 := n1_
    have BK323 := n2_
    have BK324 := n3_
    have BK345 := n4_
    have BK354 := n5_
    have HB := n6_
    clear n0_ n1_ n2_ n3_ n4_ n5_ n6_
    replace HO_6 := zM (Kd.R_drew HO_6.1)
    replace HO350 := zM (Kd.R_drew HO350.1)
    replace BK323 := zM (blk_drew BK323.1)
    replace BK324 := zM (blk_drew BK324.1)
    replace BK345 := zM (blk_drew BK345.1)
    replace BK354 := zM (blk_drew BK354.1)
    replace HB := zM (below_drew1 HB.1)
    refine start_ (n := 4) (S := fun w' => w'.cell? ⟨gb354, 0, none⟩ = some (.slice Ao77 t348.length co77) ∧ w'.cell? ⟨gb354, 1, none⟩ = some (.int .i64 t351) ∧ w'.cell? ⟨gb354, 2, none⟩ = some (.int .i64 t352)) (ds := []) #[false, false, false, false] (by kernel_rfl) rfl rfl ⟨(blk_cell BK354.1 0).trans rfl, (blk_cell BK354.1 1).trans rfl, (blk_cell BK354.1 2).trans rfl⟩ (fun hHeld => ?_)
    generalize w82.drew = w83 at HO_6 HO350 BK323 BK324 BK345 BK354 HB hHeld ⊢
    refine zPu 0 ?_
    refine zPu 2 ?_
    refine zTk3 1 hHeld ?_
    refine zOn 3 none fun K hK => ?_
    obtain ⟨hs84, hfs84⟩ := zHs BK324.1 0
    have hns84_0 := NB323_324.1
    have hns84_2 := NB345_324.1
    have hns84_3 := NB354_324.1
    have hms84_0 := NB324_323.1
    have hms84_2 := NB324_345.1
    have hms84_3 := NB324_354.1
    obtain ⟨hs85, hfs85⟩ := zHs BK324.1 1
    have hns85_0 := NB323_324.1
    have hns85_2 := NB345_324.1
    have hns85_3 := NB354_324.1
    have hms85_0 := NB324_323.1
    have hms85_2 := NB324_345.1
    have hms85_3 := NB324_354.1
    obtain ⟨hs86, hfs86⟩ := zHs BK324.1 2
    have hns86_0 := NB323_324.1
    have hns86_2 := NB345_324.1
    have hns86_3 := NB354_324.1
    have hms86_0 := NB324_323.1
    have hms86_2 := NB324_345.1
    have hms86_3 := NB324_354.1
    refine skip_ (w1 := ?_) (by rfl) rfl ?_ ?_
    rotate_left
    ·go_simp
     rfl
    refine hK.out _ _ zCs fun hHeld => ?_
    clear hK K
    refine done_ (by kernel_rfl) ?_
    try go_wp2
    refine bodyPost_ret (results_tc rfl _ _ gb324 49 #[.slice Ao77 t348.length co77, .int .i64 t351, .int .i64 t352] (0, 0) _ rfl (by exact zp3 (zK BK324.1)) Try.underlying49 rfl (by kernel_rfl)) rfl ?_
    exact ⟨_, _, zE, by refine zrR ?_; exact Kd.R_mono (Kd.R_far (p := ⟨gb324, 2, none⟩) (Kd.R_far (p := ⟨gb324, 1, none⟩) (Kd.R_far (p := ⟨gb324, 0, none⟩) (Kd.R_types HO_6.1 BK324.1 (by decide)) (fun _ hk => hk.2) (.slice Ao77 t348.length co77)) (fun _ hk => hk.2) (.int .i64 t351)) (fun _ hk => hk.2) (.int .i64 t352)) (fun _ hk => hk.1), by refine zrR ?_; exact Kd.R_mono (Kd.R_far (p := ⟨gb324, 2, none⟩) (Kd.R_far (p := ⟨gb324, 1, none⟩) (Kd.R_far (p := ⟨gb324, 0, none⟩) (Kd.R_types HO350.1 BK324.1 (by decide)) (fun _ hk => hk.2) (.slice Ao77 t348.length co77)) (fun _ hk => hk.2) (.int .i64 t351)) (fun _ hk => hk.2) (.int .i64 t352)) (fun _ hk => hk.1), zB1⟩
   rw [if_pos c36] at H
   have c36b0 := decide_eq_true c36
   clear c36
   replace H := zIt H
   obtain ⟨c37b0, H⟩ := H
   obtain ⟨y355, hy355⟩ : ∃ y_ : List Int, y_ = (y328.set (t346 : Int).toNat t353) := ⟨_, rfl⟩
   replace H : (some (y355, t348, t351, t352)) = some (r1, r2, r3, r4) := by first | (rw [hy355]; with_reducible exact H) | (have H2_ := (Option.bind_some _ _).symm.trans H; rw [hy355]; with_reducible exact H2_) | (have H2_ := (Option.bind_some _ _).symm.trans H; with_reducible exact H2_) | with_reducible exact H | (rw [hy355]; exact H) | exact H
   have Ny355 := zM hy355
   clear hy355
   simp only [Option.some.injEq, Prod.mk.injEq] at H
   obtain ⟨rfl, rfl, rfl, rfl⟩ := H
   have hnb39 := NB323_324.1
   have hnc39 := NB324_323.1
   have hcz40 := zc_3 (w := wc) BK323.1
   have p338 : 0 ≤ (a1_1 : Int) := zA
   have q338 : a1_1 < (l0.length : Int) := zA
   obtain ⟨ad338, e338, hx338_0⟩ := Kd.at_int HR0.1 a1_1 p338 q338
   cases e338
   replace hx338_0 := (HB.1.cell (World.block_lt_of_cell? w _ hx338_0)).trans hx338_0
   replace p338 := eq_true p338
   replace q338 := eq_true q338
   try go_wp2_with (first | ((with_reducible refine zG Try.func77 38 #[.int .i64 (rd l0 a1_1)] ?_); (with_reducible refine (spec_Decode.calls (rd l0 a1_1) t339 t340 t341 t342 t343 t344 _ A30.1).mono ?_); rintro e w41 ⟨rfl, hb⟩; refine ⟨_, rfl, ?_⟩; replace HO_6 := zM (Kd.R_below (zR HO_6.1) hb); replace BK323 := zM (zb BK323.1 hb); replace BK324 := zM (zb BK324.1 hb); replace HB := zM (below_step zB1 hb); clear hb) | ((with_reducible refine zBx 7 71 #[.int .i64 0, .int .i64 0, .int .i64 0, .int .i64 0, .int .i64 0] ?_); intro gb345 hg w42 hbox hb; replace HO_6 := zM (Kd.R_below (zR HO_6.1) hb); have BK345 := zM hbox; have GW345 := zM (zW hg (below_size zB1)); have GE345 := zM (zW hg (below_size zB1)); replace HB := zM (below_step zB1 hb); have NB323_345 := zM ((zn BK323.1 hg : gb323 ≠ gb345)); have NB345_323 := zM ((zm BK323.1 hg : gb345 ≠ gb323)); replace BK323 := zM (zb BK323.1 hb); have NB324_345 := zM ((zn BK324.1 hg : gb324 ≠ gb345)); have NB345_324 := zM ((zm BK324.1 hg : gb345 ≠ gb324)); replace BK324 := zM (zb BK324.1 hb); clear hb hbox hg; have hnb43 := NB345_323.1; have hnc43 := NB323_345.1; have hnb44 := NB345_324.1; have hnc44 := NB324_345.1; have hcz45 := zc_5 (w := w42) BK345.1; have hcz46 := zc_3 (w := w42) BK323.1) | ((with_reducible refine zG Try.func78 44 #[.agg #[.int .i64 t339, .int .i64 t340, .int .i64 t341, .int .i64 t342, .int .i64 t343], .slice A1_0 l1_0.length c1_0] ?_); (with_reducible refine (spec_Target.calls t339 t340 t341 t342 t343 _ _ l1_0 t346 _ ?side1 ?side2 A31.1).mono ?_); (case side1 => exact Kd.C_below HR1_0.1 zB1); (case side2 => exact HC1_0.1); rintro e w47 ⟨rfl, hb⟩; refine ⟨_, rfl, ?_⟩; replace HO_6 := zM (Kd.R_below (by refine zrR ?_; exact (Kd.R_mono (Kd.R_far (p := ⟨gb345, 4, none⟩) (Kd.R_far (p := ⟨gb345, 3, none⟩) (Kd.R_far (p := ⟨gb345, 2, none⟩) (Kd.R_far (p := ⟨gb345, 1, none⟩) (Kd.R_far (p := ⟨gb345, 0, none⟩) (Kd.R_types HO_6.1 BK345.1 (by decide)) (fun _ hk => hk.2) (.int .i64 t339)) (fun _ hk => hk.2) (.int .i64 t340)) (fun _ hk => hk.2) (.int .i64 t341)) (fun _ hk => hk.2) (.int .i64 t342)) (fun _ hk => hk.2) (.int .i64 t343)) (fun _ h_ => h_.1))) hb); replace BK323 := zM (zf BK323.1 hb); replace BK324 := zM (zf BK324.1 hb); replace BK345 := zM (blk_below (g := gb345) (o := .cells #[.int .i64 t339, .int .i64 t340, .int .i64 t341, .int .i64 t342, .int .i64 t343] 71 (0, 0)) (by exact zp5 (zK BK345.1)) hb); replace HB := zM (below_step zB1 hb); clear hb; have p347 : 0 ≤ (t346 : Int) := zA; have q347 : t346 < (l0.length : Int) := zA; obtain ⟨ad347, e347, hx347_0⟩ := Kd.at_int HR0.1 t346 p347 q347; obtain rfl : ad338 = ad347 := (by injection e347); replace hx347_0 := (HB.1.cell (World.block_lt_of_cell? w _ hx347_0)).trans hx347_0; replace p347 := eq_true p347; replace q347 := eq_true q347; have hcz48 := zc_3 (w := w47) BK323.1; have hcz49 := zc_5 (w := w47) BK345.1) | ((with_reducible refine zG Try.func79 55 #[.agg #[.slice A1_0 l1_0.length c1_0, .int .i64 a1_1, .int .i64 a1_2], .agg #[.int .i64 t339, .int .i64 t340, .int .i64 t341, .int .i64 t342, .int .i64 t343], .int .i64 (rd l0 t346)] ?_); (with_reducible refine (spec_Work.calls kj3 _ _ l1_0 a1_1 a1_2 t339 t340 t341 t342 t343 (rd l0 t346) t348 t351 t352 t353 _ ?side1 ?side2 A35.1).mono ?_); (case side1 => exact zC (Kd.C_below HR1_0.1 HB.1)); (case side2 => exact HC1_0.1); rintro e w50 ⟨v349, rfl, ho0, hb⟩; refine ⟨_, rfl, ?_⟩; have HO350 := zM (Kd.R_lower (Kd.R_new' ho0 (Kd.R_lt (zR HO_6.1))) (below_size zB1)); replace HO_6 := zM (Kd.R_elder' (zR HO_6.1) (Kd.R_base ho0) hb); replace BK323 := zM (zb BK323.1 hb); replace BK324 := zM (zb BK324.1 hb); replace BK345 := zM (zb BK345.1 hb); replace HB := zM (below_step zB1 hb); clear hb ho0) | ((with_reducible refine zBx 11 49 #[.slice none 0 0, .int .i64 0, .int .i64 0] ?_); intro gb354 hg w51 hbox hb; replace HO_6 := zM (Kd.R_below (zR HO_6.1) hb); replace HO350 := zM (Kd.R_below (zR HO350.1) hb); have BK354 := zM hbox; have GW354 := zM (zW hg (below_size zB1)); have GE354 := zM (zW hg (below_size zB1)); replace HB := zM (below_step zB1 hb); have NB323_354 := zM ((zn BK323.1 hg : gb323 ≠ gb354)); have NB354_323 := zM ((zm BK323.1 hg : gb354 ≠ gb323)); replace BK323 := zM (zb BK323.1 hb); have NB324_354 := zM ((zn BK324.1 hg : gb324 ≠ gb354)); have NB354_324 := zM ((zm BK324.1 hg : gb354 ≠ gb324)); replace BK324 := zM (zb BK324.1 hb); have NB345_354 := zM ((zn BK345.1 hg : gb345 ≠ gb354)); have NB354_345 := zM ((zm BK345.1 hg : gb354 ≠ gb345)); replace BK345 := zM (zb BK345.1 hb); clear hb hbox hg; obtain ⟨Ao52, co52, eo52⟩ := Kd.R_slice HO350.1; subst eo52; have hnb53 := NB354_323.1; have hnc53 := NB323_354.1; have hnb54 := NB354_324.1; have hnc54 := NB324_354.1; have hnb55 := NB354_345.1; have hnc55 := NB345_354.1; have hcz56 := zc_3 (w := w51) BK354.1) | ((with_reducible refine gate_store (t := 49) (p := 11) rfl ?_); refine store_event (t := 49) (p := 11) (v := ?vo_w57) (w1 := (((w51.setCell ⟨gb354, 0, none⟩ (.slice Ao52 t348.length co52)).setCell ⟨gb354, 1, none⟩ (.int .i64 t351)).setCell ⟨gb354, 2, none⟩ (.int .i64 t352))) ?hg ?ho ?hn ?hr ?_; (case ho => rfl); (case hg => rfl); (case hn => rfl); (case hr => exact zHH); intro w57 hw; have n0_ : Aside0 (Kd.R (Kd.int .i64) 3 w57 w.heap.size (fun k_ => some k_ ≠ (.slice Ao52 t348.length co52 : Value).ownBlock) v329 y328) := ⟨(by rw [hw]; exact (by refine zrR ?_; exact Kd.R_mono (Kd.R_far (p := ⟨gb354, 2, none⟩) (Kd.R_far (p := ⟨gb354, 1, none⟩) (Kd.R_far (p := ⟨gb354, 0, none⟩) (Kd.R_types HO_6.1 BK354.1 (by decide)) (fun _ hk => hk.2) (.slice Ao52 t348.length co52)) (fun _ hk => hk.2) (.int .i64 t351)) (fun _ hk => hk.2) (.int .i64 t352)) (fun _ hk => hk.1.2)))⟩; have n1_ : Aside0 (Kd.R (Kd.int .i64) 3 w57 w.heap.size (fun k_ => some k_ ≠ (v329 : Value).ownBlock) (.slice Ao52 t348.length co52) t348) := ⟨(by rw [hw]; exact (by refine zrR ?_; exact Kd.R_mono (Kd.R_far (p := ⟨gb354, 2, none⟩) (Kd.R_far (p := ⟨gb354, 1, none⟩) (Kd.R_far (p := ⟨gb354, 0, none⟩) (Kd.R_types HO350.1 BK354.1 (by decide)) (fun _ hk => hk.2) (.slice Ao52 t348.length co52)) (fun _ hk => hk.2) (.int .i64 t351)) (fun _ hk => hk.2) (.int .i64 t352)) (fun _ hk => hk.1.2)))⟩; have n2_ : Aside0 (w57.heap[gb323]? = some (.cells #[.slice A1_0 l1_0.length c1_0, .int .i64 a1_1, .int .i64 a1_2] 49 (0, 0))) := ⟨(by rw [hw]; exact (by refine zP ?_; refine blk_far ?_ NB323_354.1 _; refine zP ?_; refine blk_far ?_ NB323_354.1 _; refine zP ?_; refine blk_far ?_ NB323_354.1 _; refine zP ?_; exact BK323.1))⟩; have n3_ : Aside0 (w57.heap[gb324]? = some (.cells #[.slice none 0 0, .int .i64 0, .int .i64 0] 49 (0, 0))) := ⟨(by rw [hw]; exact (by refine zP ?_; refine blk_far ?_ NB324_354.1 _; refine zP ?_; refine blk_far ?_ NB324_354.1 _; refine zP ?_; refine blk_far ?_ NB324_354.1 _; refine zP ?_; exact BK324.1))⟩; have n4_ : Aside0 (w57.heap[gb345]? = some (.cells #[.int .i64 t339, .int .i64 t340, .int .i64 t341, .int .i64 t342, .int .i64 t343] 71 (0, 0))) := ⟨(by rw [hw]; exact (by refine zP ?_; refine blk_far ?_ NB345_354.1 _; refine zP ?_; refine blk_far ?_ NB345_354.1 _; refine zP ?_; refine blk_far ?_ NB345_354.1 _; refine zP ?_; exact BK345.1))⟩; have n5_ : Aside0 (w57.heap[gb354]? = some (.cells #[.slice Ao52 t348.length co52, .int .i64 t351, .int .i64 t352] 49 (0, 0))) := ⟨(by rw [hw]; exact (by exact zp3 (zK BK354.1)))⟩; have n6_ : Aside0 (Below w.heap.size w w57) := ⟨(by rw [hw]; exact zB1)⟩; clear hw; clear HO_6; clear HO350; clear BK323; clear BK324; clear BK345; clear BK354; clear HB; have HO_6 := n0_; have HO350 := n1_; have BK323 := n2_; have BK324 := n3_; have BK345 := n4_; have BK354 := n5_; have HB := n6_; clear n0_ n1_ n2_ n3_ n4_ n5_ n6_; have p38 : 0 ≤ (t346 : Int) := zA; have q38 : (t346 : Int) < ((y328.length : Int) : Int) := zA; obtain ⟨go38, co38, eo38, gb38, gl38, cl38, HG38⟩ := Kd.R_form HO_6.1 (by omega); (first | cases eo38 | (injection eo38 with ea_ en_ ec_; (first | subst ea_ | (injection ea_ with ea_; subst ea_)); subst ec_; clear en_)); have GB38 := zM gb38; have GG38 := zM HG38; clear gb38 gl38 HG38; obtain ⟨hx38_0, hf38_0⟩ := Kd.R_celln 0 HO_6.1 (t346 : Int) p38 q38; replace p38 := eq_true p38; replace q38 := eq_true q38; obtain ⟨hy58_, hz58_⟩ := Kd.R_celln 0 HO_6.1 (t346 : Int) zA zA; have HP58 := Kd.R_putg HO_6.1 (t346 : Int) t353) | ((with_reducible refine gate_store (t := 3) (p := 63) rfl ?_); refine store_event (t := 3) (p := 63) (v := ?vo_w59) (w1 := (w57.setCell ⟨go38, (t346 : Int).toNat, none⟩ (.int .i64 t353))) ?hg ?ho ?hn ?hr ?_; (case ho => rfl); (case hg => rfl); (case hn => rfl); (case hr => exact zHH); intro w59 hw; have hg : w57.grownBy w59 (some go38) := (by rw [hw]; exact HP58.2); have hp_ : Kd.R (Kd.int .i64) 3 w59 w.heap.size (fun k_ => some k_ ≠ (.slice Ao52 t348.length co52 : Value).ownBlock) (.slice (some ⟨go38, 0, none⟩) y328.length co38) y355 := (by rw [hw, Ny355.1]; exact HP58.1); clear HP58; replace BK323 := zM (zg BK323.1 hg (Kd.R_ne HO_6.1 BK323.1 (by decide))); replace BK324 := zM (zg BK324.1 hg (Kd.R_ne HO_6.1 BK324.1 (by decide))); replace BK345 := zM (zg BK345.1 hg (Kd.R_ne HO_6.1 BK345.1 (by decide))); replace HO350 := zM (Kd.R_after (v := (.slice (some ⟨go38, 0, none⟩) y328.length co38)) (v1 := (.slice (some ⟨go38, 0, none⟩) y328.length co38)) (ok := (fun _ => True)) (by refine zrR ?_; exact Kd.R_mono HO350.1 (fun _ hk => ⟨trivial, hk⟩)) hg (.inl rfl)); replace BK354 := zM (zg BK354.1 hg (Kd.R_ne HO_6.1 BK354.1 (by decide))); replace HO_6 := zM hp_; replace HB := zM ((by rw [hw]; exact below_set (HB.1) GB38.1 : Below w.heap.size w w59)); clear hg hw hp_))
   replace HO_6 := zM (Kd.R_drew HO_6.1)
   replace HO350 := zM (Kd.R_drew HO350.1)
   replace BK323 := zM (blk_drew BK323.1)
   replace BK324 := zM (blk_drew BK324.1)
   replace BK345 := zM (blk_drew BK345.1)
   replace BK354 := zM (blk_drew BK354.1)
   replace HB := zM (below_drew1 HB.1)
   refine start_ (n := 4) (S := fun w' => w'.cell? ⟨gb354, 0, none⟩ = some (.slice Ao52 t348.length co52) ∧ w'.cell? ⟨gb354, 1, none⟩ = some (.int .i64 t351) ∧ w'.cell? ⟨gb354, 2, none⟩ = some (.int .i64 t352)) (ds := []) #[false, false, false, false] (by kernel_rfl) rfl rfl ⟨(blk_cell BK354.1 0).trans rfl, (blk_cell BK354.1 1).trans rfl, (blk_cell BK354.1 2).trans rfl⟩ (fun hHeld => ?_)
   generalize w59.drew = w60 at HO_6 HO350 BK323 BK324 BK345 BK354 HB hHeld ⊢
   refine zPu 0 ?_
   refine zPu 2 ?_
   refine zTk3 1 hHeld ?_
   refine zOn 3 none fun K hK => ?_
   obtain ⟨hs61, hfs61⟩ := zHs BK324.1 0
   have hns61_0 := NB323_324.1
   have hns61_2 := NB345_324.1
   have hns61_3 := NB354_324.1
   have hms61_0 := NB324_323.1
   have hms61_2 := NB324_345.1
   have hms61_3 := NB324_354.1
   obtain ⟨hs62, hfs62⟩ := zHs BK324.1 1
   have hns62_0 := NB323_324.1
   have hns62_2 := NB345_324.1
   have hns62_3 := NB354_324.1
   have hms62_0 := NB324_323.1
   have hms62_2 := NB324_345.1
   have hms62_3 := NB324_354.1
   obtain ⟨hs63, hfs63⟩ := zHs BK324.1 2
   have hns63_0 := NB323_324.1
   have hns63_2 := NB345_324.1
   have hns63_3 := NB354_324.1
   have hms63_0 := NB324_323.1
   have hms63_2 := NB324_345.1
   have hms63_3 := NB324_354.1
   refine skip_ (w1 := ?_) (by rfl) rfl ?_ ?_
   rotate_left
   ·go_simp
    rfl
   refine hK.out _ _ zCs fun hHeld => ?_
   clear hK K
   refine done_ (by kernel_rfl) ?_
   try go_wp2
   refine bodyPost_ret (results_tc rfl _ _ gb324 49 #[.slice Ao52 t348.length co52, .int .i64 t351, .int .i64 t352] (0, 0) _ rfl (by exact zp3 (zK BK324.1)) Try.underlying49 rfl (by kernel_rfl)) rfl ?_
   exact ⟨_, _, zE, by refine zrR ?_; exact Kd.R_mono (Kd.R_far (p := ⟨gb324, 2, none⟩) (Kd.R_far (p := ⟨gb324, 1, none⟩) (Kd.R_far (p := ⟨gb324, 0, none⟩) (Kd.R_types HO_6.1 BK324.1 (by decide)) (fun _ hk => hk.2) (.slice Ao52 t348.length co52)) (fun _ hk => hk.2) (.int .i64 t351)) (fun _ hk => hk.2) (.int .i64 t352)) (fun _ hk => hk.1), by refine zrR ?_; exact Kd.R_mono (Kd.R_far (p := ⟨gb324, 2, none⟩) (Kd.R_far (p := ⟨gb324, 1, none⟩) (Kd.R_far (p := ⟨gb324, 0, none⟩) (Kd.R_types HO350.1 BK324.1 (by decide)) (fun _ hk => hk.2) (.slice Ao52 t348.length co52)) (fun _ hk => hk.2) (.int .i64 t351)) (fun _ hk => hk.2) (.int .i64 t352)) (fun _ hk => hk.1.2), zB1⟩

end Go.Proofs.Ytgbjengnkbomoaa.PFnKnows
