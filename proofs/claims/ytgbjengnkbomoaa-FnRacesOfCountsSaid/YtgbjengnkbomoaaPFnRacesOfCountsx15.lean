-- made by wip/tools/myprint.py out of the seat's translation
import Derived.Test.YtgbjengnkbomoaaPFnRacesOfCountsx0
import Derived.Test.YtgbjengnkbomoaaPFnRacesOfCountsx11
import Derived.Test.YtgbjengnkbomoaaPFnRacesOfCountsx12
import Derived.Test.YtgbjengnkbomoaaPFnRacesOfCountsx13
namespace Go.Proofs.Ytgbjengnkbomoaa.PFnRacesOfCounts
open Go.RowKit Go.Proofs.YtgbjengnkbomoaaW.PrintWords Go.Proofs.YtgbjengnkbomoaaW.PrintLast Go.Proofs.YtgbjengnkbomoaaW.PrintMore
attribute [local go_sem] max2_int min2_int max_two min_two max_three min_three max_four min_four   -- for this text's walks alone
set_option linter.unusedVariables false
set_option linter.unusedSimpArgs false
set_option maxHeartbeats 8000000
set_option maxRecDepth 100000

/-! ### spec_FlatStep: function 57 -/
def spec_FlatStep.j0 : Nat → List Int → List Int → Bool → List Int → Int → Int → Option (List Int × List Int × Int × Int)
 | 0, _, _, _, _, _, _ => none
 | k + 1, x0, x6, x28, x467000, x467001, x467002 => if x28 = true then ((spec_l9Copy.f x467000 x467001 x467002).bind fun bt476 => (some (x6, bt476.1, bt476.2.1, bt476.2.2))) else (if 0 ≤ x467001 then (if x467001 < (x0.length : Int) then ((spec_Decode.f (rd x0 x467001)).bind fun bt482 => ((spec_Target.f bt482.1 bt482.2.1 bt482.2.2.1 bt482.2.2.2.1 bt482.2.2.2.2.1 x467000).bind fun t489 => (if t489 ≥ 0 then (if 0 ≤ t489 then (if t489 < (x0.length : Int) then ((spec_Work.f k x467000 x467001 x467002 bt482.1 bt482.2.1 bt482.2.2.1 bt482.2.2.2.1 bt482.2.2.2.2.1 (rd x0 t489)).bind fun bt491 => (if bt491.2.2.2 ≥ 0 then (if t489 < (x6.length : Int) then (some ((x6.set (t489 : Int).toNat bt491.2.2.2), bt491.1, bt491.2.1, bt491.2.2.1)) else (none)) else (some (x6, bt491.1, bt491.2.1, bt491.2.2.1)))) else (none)) else (none)) else ((spec_Work.f k x467000 x467001 x467002 bt482.1 bt482.2.1 bt482.2.2.1 bt482.2.2.2.1 bt482.2.2.2.2.1 0).bind fun bt499 => (if bt499.2.2.2 ≥ 0 then (if 0 ≤ t489 then (if t489 < (x6.length : Int) then (some ((x6.set (t489 : Int).toNat bt499.2.2.2), bt499.1, bt499.2.1, bt499.2.2.1)) else (none)) else (none)) else (some (x6, bt499.1, bt499.2.1, bt499.2.2.1))))))) else (none)) else (none))
def spec_FlatStep.f (k : Nat) (l0 : List Int) (l1_0 : List Int) (a1_1 : Int) (a1_2 : Int) : Option (List Int × List Int × Int × Int) := (some (([] : List Int) : List Int)).bind fun y468 => (if y468.length + l0.length < 17592186044416 then ((some (y468 ++ l0 : List Int)).bind fun y471 => ((spec_l1Words.f k l0 24).bind fun t474 => (if t474 = true then ((spec_HartOk.f k l1_0 a1_1 a1_2).bind fun t475 => (if t475 = true then (spec_FlatStep.j0 k l0 y471 (a1_2 != 0) l1_0 a1_1 a1_2) else (spec_FlatStep.j0 k l0 y471 true l1_0 a1_1 a1_2))) else (spec_FlatStep.j0 k l0 y471 true l1_0 a1_1 a1_2)))) else (none))
theorem spec_FlatStep.mono_l : ∀ k, (∀ y0 y1 y2 y3 y4 y5, LeO (spec_FlatStep.j0 k y0 y1 y2 y3 y4 y5) (spec_FlatStep.j0 (k + 1) y0 y1 y2 y3 y4 y5))
 | 0 => fun _ _ _ _ _ _ r h => by simp [spec_FlatStep.j0] at h
 | k + 1 => by
  have ih0 := spec_FlatStep.mono_l k
  ·intros
   unfold spec_FlatStep.j0
   have mo0 := @spec_HartOk.mono
   have mo1 := @spec_Work.mono
   have mo2 := @spec_l1Words.mono
   exact zL
theorem spec_FlatStep.mono : ∀ a0 a1 a2 a3 k, LeO (spec_FlatStep.f k a0 a1 a2 a3) (spec_FlatStep.f (k + 1) a0 a1 a2 a3) := by
 intro a0 a1 a2 a3 k
 have ih0 := spec_FlatStep.mono_l k
 unfold spec_FlatStep.f
 have mo0 := @spec_HartOk.mono
 have mo1 := @spec_Work.mono
 have mo2 := @spec_l1Words.mono
 exact zL
theorem spec_FlatStep.calls (k : Nat) (A0 : Option Addr) (c0 : Nat) (l0 : List Int) (A1_0 : Option Addr) (c1_0 : Nat) (l1_0 : List Int) (a1_1 : Int) (a1_2 : Int) (r1 : List Int) (r2 : List Int) (r3 : Int) (r4 : Int) (w : World) (hr0 : Kd.C (Kd.int .i64) w A0 l0.length l0) (hc0 : l0.length ≤ c0) (hr1_0 : Kd.C (Kd.int .i64) w A1_0 l1_0.length l1_0) (hc1_0 : l1_0.length ≤ c1_0) (h : spec_FlatStep.f k l0 l1_0 a1_1 a1_2 = some (r1, r2, r3, r4)) :
  Calls Try.prog 57 #[.slice A0 l0.length c0, .agg #[.slice A1_0 l1_0.length c1_0, .int .i64 a1_1, .int .i64 a1_2]] w fun e w' => ∃ v0_ v1_ : Value, e = .returned (.tuple #[v0_, .agg #[v1_, .int .i64 r3, .int .i64 r4]]) ∧ Kd.R (Kd.int .i64) 3 w' w.heap.size (fun k_ => some k_ ≠ (v1_ : Value).ownBlock) v0_ r1 ∧ Kd.R (Kd.int .i64) 3 w' w.heap.size (fun k_ => some k_ ≠ (v0_ : Value).ownBlock) v1_ r2 ∧ Below w.heap.size w w' := by
 have hu49 := Try.underlying49
 have hu71 := Try.underlying71
 have HR0 := zM hr0
 have HC0 := zM hc0
 clear hr0 hc0
 have HR1_0 := zM hr1_0
 have HC1_0 := zM hc1_0
 clear hr1_0 hc1_0
 have HB := zM (Below.refl w.heap.size w)
 unfold spec_FlatStep.f at h
 have H := h
 clear h
 replace H := zY H
 obtain ⟨y468, Ny468, H⟩ := H
 replace H := zIn H
 obtain ⟨LMc3, H⟩ := H
 replace H := zY H
 obtain ⟨y471, Ny471, H⟩ := H
 have HC4 := zM H
 clear H
 go_enter Try.func57, Try.ntmps57
 go_upto_region 2 with (first | ((with_reducible refine zBx 3 49 #[.slice A1_0 l1_0.length c1_0, .int .i64 a1_1, .int .i64 a1_2] ?_); intro gb466 hg w5 hbox hb; have BK466 := zM hbox; have GW466 := zM (zW hg (below_size zB1)); have GE466 := zM (zW hg (below_size zB1)); replace HB := zM (below_step zB1 hb); clear hb hbox hg) | ((with_reducible refine zBx 5 49 #[.slice none 0 0, .int .i64 0, .int .i64 0] ?_); intro gb467 hg w6 hbox hb; have BK467 := zM hbox; have GW467 := zM (zW hg (below_size zB1)); have GE467 := zM (zW hg (below_size zB1)); replace HB := zM (below_step zB1 hb); have NB466_467 := zM ((zn BK466.1 hg : gb466 ≠ gb467)); have NB467_466 := zM ((zm BK466.1 hg : gb467 ≠ gb466)); replace BK466 := zM (zb BK466.1 hb); clear hb hbox hg) | ((with_reducible refine gate_dst (N := 13) rfl ?_); refine Kd.R_lit (Kd.int .i64) _ 3 ?hg (N := 13) ?hd (xs := ([] : List Int)) (inner := []) (ok := fun _ => True) (okp := fun _ => True) ?hr ?hp (fun _ hk => hk) trivial (Below.refl _ _) (Nat.le_refl _) (by simp) ?_; (case hd => rfl); (case hg => rfl); (case hr => exact zHH); (case hp => exact (Reps.none _ _)); intro v469 w7 ho8 hb hg_ hnew_; clear hg_ hnew_; (first | rw [← Ny468.1] at ho8 | (simp only [Int.reduceToNat] at ho8; rw [← Ny468.1] at ho8)); have HO470 := zM (Kd.R_lower ho8 (below_size zB1)); replace BK466 := zM (zb BK466.1 hb); replace BK467 := zM (zb BK467.1 hb); replace HB := zM (below_step zB1 hb); clear hb ho8) | ((with_reducible refine gate_builtin (b := .append) (xs := #[.tmp 13, .tmp 14]) rfl ?_); at_builtin; refine Kd.R_append_rows (Kd.int .i64) (w0 := w) w.heap.size rfl (.tmp 13) (.tmp 14) 29 3 (.int .i64 0) 8 rfl Try.underlying29 info3 rfl (by decide) (by omega) v469 y468 l0 _ _ _ (fun _ => True) (fun _ => False) rfl rfl ?aO ?aR (fun _ _ h => h) (fun _ h => h.elim) ?aF ?aB ?aS ?aL ?_; (case aR => exact zC (Kd.C_below HR0.1 HB.1)); (case aB => exact zB1); (case aF => exact (fun _ _ => trivial)); (case aO => exact (zR HO470.1)); (case aS => exact (below_size zB1)); (case aL => have := LMc3.out; omega); intro v472 w9 ho hb hg hat; rw [← Ny471.1] at ho; replace BK466 := zM (zg BK466.1 hg (Kd.R_ne HO470.1 BK466.1 (by decide))); replace BK467 := zM (zg BK467.1 hg (Kd.R_ne HO470.1 BK467.1 (by decide))); replace HB := zM hb; have HO473 := zM ho; clear HO470; clear ho hb hg hat))
 (try simp only [Act.put, List.setIfInBounds_toArray, List.set_cons_zero, List.set_cons_succ])
 go_cut [28] (fun v28 wc => ∃ (kq : Nat) (x28_3 : Bool), v28 = .bool x28_3 ∧ Aside0 (spec_FlatStep.j0 kq l0 y471 x28_3 l1_0 a1_1 a1_2 = some (r1, r2, r3, r4)) ∧ Aside0 (kq ≤ k) ∧ Aside0 (Kd.R (Kd.int .i64) 3 wc w.heap.size (fun _ => True) v472 y471) ∧ Aside0 (wc.heap[gb466]? = some (.cells #[(.slice A1_0 l1_0.length c1_0), .int .i64 a1_1, .int .i64 a1_2] 49 (0, 0))) ∧ Aside0 (wc.heap[gb467]? = some (.cells #[(.slice none 0 0), .int .i64 0, .int .i64 0] 49 (0, 0))) ∧ Aside0 (Below w.heap.size w wc))
 case first =>
  have H := HC4.1
  clear HC4
  replace H := zO H
  obtain ⟨t474, A10, H⟩ := H
  by_cases c11 : t474 = true
  rotate_left
  ·replace c11 := Bool.eq_false_iff.mpr c11
   subst c11
   rw [if_neg zF] at H
   have H' := zM H
   clear H
   go_wp2_with (first | ((with_reducible refine zG Try.func75 17 #[.slice A0 l0.length c0, .int .i64 24] ?_); (with_reducible refine (spec_l1Words.calls k _ _ l0 24 false _ ?side1 ?side2 A10.1).mono ?_); (case side1 => exact zC (Kd.C_below HR0.1 HB.1)); (case side2 => exact HC0.1); rintro e w' ⟨rfl, ⟨nd, rfl⟩⟩; refine ⟨_, rfl, ?_⟩))
   go_meet
   case rel => exact ⟨_, (true), zJJ, H', ⟨by first | omega | exact Nat.le_refl _⟩, ⟨zR HO473.1⟩, ⟨zK BK466.1⟩, ⟨zK BK467.1⟩, ⟨zB1⟩⟩
  subst c11
  rw [if_pos rfl] at H
  replace H := zO H
  obtain ⟨t475, A12, H⟩ := H
  by_cases c13 : t475 = true
  rotate_left
  ·replace c13 := Bool.eq_false_iff.mpr c13
   subst c13
   rw [if_neg zF] at H
   have H' := zM H
   clear H
   go_wp2_with (first | ((with_reducible refine zG Try.func75 17 #[.slice A0 l0.length c0, .int .i64 24] ?_); (with_reducible refine (spec_l1Words.calls k _ _ l0 24 true _ ?side1 ?side2 A10.1).mono ?_); (case side1 => exact zC (Kd.C_below HR0.1 HB.1)); (case side2 => exact HC0.1); rintro e w' ⟨rfl, ⟨nd, rfl⟩⟩; refine ⟨_, rfl, ?_⟩; have hnb18 := NB466_467.1; have hnc18 := NB467_466.1; have hcz19 := zc_3 (w := w9) BK466.1) | (go_at_call 76; (with_reducible refine (spec_HartOk.calls k _ _ l1_0 a1_1 a1_2 false _ ?side1 ?side2 A12.1).mono ?_); (case side1 => repeat (first | exact (Kd.C_below HR1_0.1 zB1) | (with_reducible refine Kd.C_alloc ?_ _) | (with_reducible refine Kd.C_drewN ?_ _) | (with_reducible refine Kd.C_drew ?_))); (case side2 => exact HC1_0.1); rintro e w20 ⟨rfl, hb⟩; replace HO473 := zM (Kd.R_below (zR HO473.1) hb); replace BK466 := zM (zb BK466.1 hb); replace BK467 := zM (zb BK467.1 hb); replace HB := zM (below_step zB1 hb); clear hb))
   go_meet
   case rel => exact ⟨_, (true), zJJ, H', ⟨by first | omega | exact Nat.le_refl _⟩, ⟨zR HO473.1⟩, ⟨zK BK466.1⟩, ⟨zK BK467.1⟩, ⟨zB1⟩⟩
  subst c13
  rw [if_pos rfl] at H
  have H' := zM H
  clear H
  go_wp2_with (first | ((with_reducible refine zG Try.func75 17 #[.slice A0 l0.length c0, .int .i64 24] ?_); (with_reducible refine (spec_l1Words.calls k _ _ l0 24 true _ ?side1 ?side2 A10.1).mono ?_); (case side1 => exact zC (Kd.C_below HR0.1 HB.1)); (case side2 => exact HC0.1); rintro e w' ⟨rfl, ⟨nd, rfl⟩⟩; refine ⟨_, rfl, ?_⟩; have hnb14 := NB466_467.1; have hnc14 := NB467_466.1; have hcz15 := zc_3 (w := w9) BK466.1) | (go_at_call 76; (with_reducible refine (spec_HartOk.calls k _ _ l1_0 a1_1 a1_2 true _ ?side1 ?side2 A12.1).mono ?_); (case side1 => repeat (first | exact (Kd.C_below HR1_0.1 zB1) | (with_reducible refine Kd.C_alloc ?_ _) | (with_reducible refine Kd.C_drewN ?_ _) | (with_reducible refine Kd.C_drew ?_))); (case side2 => exact HC1_0.1); rintro e w16 ⟨rfl, hb⟩; replace HO473 := zM (Kd.R_below (zR HO473.1) hb); replace BK466 := zM (zb BK466.1 hb); replace BK467 := zM (zb BK467.1 hb); replace HB := zM (below_step zB1 hb); clear hb; have hcz17 := zc_3 (w := w16) BK466.1))
  go_meet
  case rel => exact ⟨_, ((a1_2 != 0)), zJJ, H', ⟨by first | omega | exact Nat.le_refl _⟩, ⟨zR HO473.1⟩, ⟨zK BK466.1⟩, ⟨zK BK467.1⟩, ⟨zB1⟩⟩
 case rest =>
  clear HC4
  obtain ⟨kq, x28_3, rfl, HA, HJ3, HO_6, BK466, BK467, HB⟩ := hcut
  cases kq with
  | zero => exact absurd HA.1 (by simp [spec_FlatStep.j0])
  | succ kj3 =>
   have H := HA.1
   clear HA
   simp only [spec_FlatStep.j0] at H
   by_cases c21 : x28_3 = true
   ·subst c21
    rw [if_pos rfl] at H
    replace H := zO H
    obtain ⟨⟨t476, t479, t480⟩, A22, H⟩ := H
    try dsimp only at H
    simp only [Option.some.injEq, Prod.mk.injEq] at H
    obtain ⟨rfl, rfl, rfl, rfl⟩ := H
    have hnb23 := NB466_467.1
    have hnc23 := NB467_466.1
    have hcz24 := zc_3 (w := wc) BK466.1
    go_wp2_with (first | ((with_reducible refine zG Try.func80 31 #[.agg #[.slice A1_0 l1_0.length c1_0, .int .i64 a1_1, .int .i64 a1_2]] ?_); (with_reducible refine (spec_l9Copy.calls _ _ l1_0 a1_1 a1_2 t476 t479 t480 _ ?side1 ?side2 A22.1).mono ?_); (case side1 => exact zC (Kd.C_below HR1_0.1 HB.1)); (case side2 => exact HC1_0.1); rintro e w25 ⟨v477, rfl, ho0, hb⟩; refine ⟨_, rfl, ?_⟩; have HO478 := zM (Kd.R_lower (Kd.R_new' ho0 (Kd.R_lt (zR HO_6.1))) (below_size zB1)); replace HO_6 := zM (Kd.R_elder' (zR HO_6.1) (Kd.R_base ho0) hb); replace BK466 := zM (zb BK466.1 hb); replace BK467 := zM (zb BK467.1 hb); replace HB := zM (below_step zB1 hb); clear hb ho0; obtain ⟨Ao26, co26, eo26⟩ := Kd.R_slice HO478.1; subst eo26; have hcz27 := zc_3 (w := w25) BK467.1))
    refine bodyPost_ret (results_tc rfl _ _ gb467 49 #[.slice Ao26 t476.length co26, .int .i64 t479, .int .i64 t480] (0, 0) _ rfl (by exact zp3 (zK BK467.1)) Try.underlying49 rfl (by kernel_rfl)) rfl ?_
    exact ⟨_, _, zE, by refine zrR ?_; exact Kd.R_mono (zfR (zfR (zfR (Kd.R_types HO_6.1 BK467.1 (by decide))))) (fun _ hk => hk.1.2), by refine zrR ?_; exact Kd.R_mono (zfR (zfR (zfR (Kd.R_types HO478.1 BK467.1 (by decide))))) (fun _ hk => hk.1.2), zB1⟩
   replace c21 := Bool.eq_false_iff.mpr c21
   subst c21
   rw [if_neg zF] at H
   replace H := zIt H
   obtain ⟨c28b0, H⟩ := H
   replace H := zIt H
   obtain ⟨c29b0, H⟩ := H
   replace H := zO H
   obtain ⟨⟨t482, t483, t484, t485, t486, t487⟩, A30, H⟩ := H
   try dsimp only at H
   replace H := zO H
   obtain ⟨t489, A31, H⟩ := H
   by_cases c32 : t489 ≥ 0
   rotate_left
   ·rw [if_neg c32] at H
    have c32b0 := decide_eq_false c32
    clear c32
    replace H := zO H
    obtain ⟨⟨t499, t502, t503, t504⟩, A87, H⟩ := H
    try dsimp only at H
    by_cases c88 : t504 ≥ 0
    rotate_left
    ·rw [if_neg c88] at H
     have c88b0 := decide_eq_false c88
     clear c88
     simp only [Option.some.injEq, Prod.mk.injEq] at H
     obtain ⟨rfl, rfl, rfl, rfl⟩ := H
     have hnb117 := NB466_467.1
     have hnc117 := NB467_466.1
     have hcz118 := zc_3 (w := wc) BK466.1
     have p481 : 0 ≤ (a1_1 : Int) := zA
     have q481 : a1_1 < (l0.length : Int) := zA
     obtain ⟨ad481, e481, hx481_0⟩ := Kd.at_int HR0.1 a1_1 p481 q481
     cases e481
     replace hx481_0 := (HB.1.cell (World.block_lt_of_cell? w _ hx481_0)).trans hx481_0
     replace p481 := eq_true p481
     replace q481 := eq_true q481
     try go_wp2_with (first | ((with_reducible refine zG Try.func77 38 #[.int .i64 (rd l0 a1_1)] ?_); (with_reducible refine (spec_Decode.calls (rd l0 a1_1) t482 t483 t484 t485 t486 t487 _ A30.1).mono ?_); rintro e w119 ⟨rfl, hb⟩; refine ⟨_, rfl, ?_⟩; replace HO_6 := zM (Kd.R_below (zR HO_6.1) hb); replace BK466 := zM (zb BK466.1 hb); replace BK467 := zM (zb BK467.1 hb); replace HB := zM (below_step zB1 hb); clear hb) | ((with_reducible refine zBx 7 71 #[.int .i64 0, .int .i64 0, .int .i64 0, .int .i64 0, .int .i64 0] ?_); intro gb488 hg w120 hbox hb; replace HO_6 := zM (Kd.R_below (zR HO_6.1) hb); have BK488 := zM hbox; have GW488 := zM (zW hg (below_size zB1)); have GE488 := zM (zW hg (below_size zB1)); replace HB := zM (below_step zB1 hb); have NB466_488 := zM ((zn BK466.1 hg : gb466 ≠ gb488)); have NB488_466 := zM ((zm BK466.1 hg : gb488 ≠ gb466)); replace BK466 := zM (zb BK466.1 hb); have NB467_488 := zM ((zn BK467.1 hg : gb467 ≠ gb488)); have NB488_467 := zM ((zm BK467.1 hg : gb488 ≠ gb467)); replace BK467 := zM (zb BK467.1 hb); clear hb hbox hg; have hnb121 := NB488_466.1; have hnc121 := NB466_488.1; have hnb122 := NB488_467.1; have hnc122 := NB467_488.1; have hcz123 := zc_5 (w := w120) BK488.1; have hcz124 := zc_3 (w := w120) BK466.1) | ((with_reducible refine zG Try.func78 44 #[.agg #[.int .i64 t482, .int .i64 t483, .int .i64 t484, .int .i64 t485, .int .i64 t486], .slice A1_0 l1_0.length c1_0] ?_); (with_reducible refine (spec_Target.calls t482 t483 t484 t485 t486 _ _ l1_0 t489 _ ?side1 ?side2 A31.1).mono ?_); (case side1 => exact Kd.C_below HR1_0.1 zB1); (case side2 => exact HC1_0.1); rintro e w125 ⟨rfl, hb⟩; refine ⟨_, rfl, ?_⟩; replace HO_6 := zM (Kd.R_below (by refine zrR ?_; exact (Kd.R_mono (zfR (zfR (zfR (zfR (zfR (Kd.R_types HO_6.1 BK488.1 (by decide))))))) (fun _ h_ => h_.1))) hb); replace BK466 := zM (zf BK466.1 hb); replace BK467 := zM (zf BK467.1 hb); replace BK488 := zM (blk_below (g := gb488) (o := .cells #[.int .i64 t482, .int .i64 t483, .int .i64 t484, .int .i64 t485, .int .i64 t486] 71 (0, 0)) (by exact zp5 (zK BK488.1)) hb); replace HB := zM (below_step zB1 hb); clear hb; have hcz126 := zc_3 (w := w125) BK466.1; have hcz127 := zc_5 (w := w125) BK488.1) | ((with_reducible refine zG Try.func79 55 #[.agg #[.slice A1_0 l1_0.length c1_0, .int .i64 a1_1, .int .i64 a1_2], .agg #[.int .i64 t482, .int .i64 t483, .int .i64 t484, .int .i64 t485, .int .i64 t486], .int .i64 0] ?_); (with_reducible refine (spec_Work.calls kj3 _ _ l1_0 a1_1 a1_2 t482 t483 t484 t485 t486 0 t499 t502 t503 t504 _ ?side1 ?side2 A87.1).mono ?_); (case side1 => exact zC (Kd.C_below HR1_0.1 HB.1)); (case side2 => exact HC1_0.1); rintro e w128 ⟨v500, rfl, ho0, hb⟩; refine ⟨_, rfl, ?_⟩; have HO501 := zM (Kd.R_lower (Kd.R_new' ho0 (Kd.R_lt (zR HO_6.1))) (below_size zB1)); replace HO_6 := zM (Kd.R_elder' (zR HO_6.1) (Kd.R_base ho0) hb); replace BK466 := zM (zb BK466.1 hb); replace BK467 := zM (zb BK467.1 hb); replace BK488 := zM (zb BK488.1 hb); replace HB := zM (below_step zB1 hb); clear hb ho0) | ((with_reducible refine zBx 11 49 #[.slice none 0 0, .int .i64 0, .int .i64 0] ?_); intro gb505 hg w129 hbox hb; replace HO_6 := zM (Kd.R_below (zR HO_6.1) hb); replace HO501 := zM (Kd.R_below (zR HO501.1) hb); have BK505 := zM hbox; have GW505 := zM (zW hg (below_size zB1)); have GE505 := zM (zW hg (below_size zB1)); replace HB := zM (below_step zB1 hb); have NB466_505 := zM ((zn BK466.1 hg : gb466 ≠ gb505)); have NB505_466 := zM ((zm BK466.1 hg : gb505 ≠ gb466)); replace BK466 := zM (zb BK466.1 hb); have NB467_505 := zM ((zn BK467.1 hg : gb467 ≠ gb505)); have NB505_467 := zM ((zm BK467.1 hg : gb505 ≠ gb467)); replace BK467 := zM (zb BK467.1 hb); have NB488_505 := zM ((zn BK488.1 hg : gb488 ≠ gb505)); have NB505_488 := zM ((zm BK488.1 hg : gb505 ≠ gb488)); replace BK488 := zM (zb BK488.1 hb); clear hb hbox hg; obtain ⟨Ao130, co130, eo130⟩ := Kd.R_slice HO501.1; subst eo130; have hnb131 := NB505_466.1; have hnc131 := NB466_505.1; have hnb132 := NB505_467.1; have hnc132 := NB467_505.1; have hnb133 := NB505_488.1; have hnc133 := NB488_505.1; have hcz134 := zc_3 (w := w129) BK505.1))
     have n0_ : Aside0 (Kd.R (Kd.int .i64) 3 (((w129.setCell ⟨gb505, 0, none⟩ (.slice Ao130 t499.length co130)).setCell ⟨gb505, 1, none⟩ (.int .i64 t502)).setCell ⟨gb505, 2, none⟩ (.int .i64 t503)) w.heap.size (fun k_ => some k_ ≠ (.slice Ao130 t499.length co130 : Value).ownBlock) v472 y471) := ⟨by refine zrR ?_; exact Kd.R_mono (zfR (zfR (zfR (Kd.R_types HO_6.1 BK505.1 (by decide))))) (fun _ hk => hk.1.2)⟩
     have n1_ : Aside0 (Kd.R (Kd.int .i64) 3 (((w129.setCell ⟨gb505, 0, none⟩ (.slice Ao130 t499.length co130)).setCell ⟨gb505, 1, none⟩ (.int .i64 t502)).setCell ⟨gb505, 2, none⟩ (.int .i64 t503)) w.heap.size (fun k_ => some k_ ≠ (v472 : Value).ownBlock) (.slice Ao130 t499.length co130) t499) := ⟨by refine zrR ?_; exact Kd.R_mono (zfR (zfR (zfR (Kd.R_types HO501.1 BK505.1 (by decide))))) (fun _ hk => hk.1.2)⟩
     have n2_ : Aside0 ((((w129.setCell ⟨gb505, 0, none⟩ (.slice Ao130 t499.length co130)).setCell ⟨gb505, 1, none⟩ (.int .i64 t502)).setCell ⟨gb505, 2, none⟩ (.int .i64 t503)).heap[gb466]? = some (.cells #[.slice A1_0 l1_0.length c1_0, .int .i64 a1_1, .int .i64 a1_2] 49 (0, 0))) := ⟨zPq⟩
     have n3_ : Aside0 ((((w129.setCell ⟨gb505, 0, none⟩ (.slice Ao130 t499.length co130)).setCell ⟨gb505, 1, none⟩ (.int .i64 t502)).setCell ⟨gb505, 2, none⟩ (.int .i64 t503)).heap[gb467]? = some (.cells #[.slice none 0 0, .int .i64 0, .int .i64 0] 49 (0, 0))) := ⟨zPq⟩
     have n4_ : Aside0 ((((w129.setCell ⟨gb505, 0, none⟩ (.slice Ao130 t499.length co130)).setCell ⟨gb505, 1, none⟩ (.int .i64 t502)).setCell ⟨gb505, 2, none⟩ (.int .i64 t503)).heap[gb488]? = some (.cells #[.int .i64 t482, .int .i64 t483, .int .i64 t484, .int .i64 t485, .int .i64 t486] 71 (0, 0))) := ⟨zPq⟩
     have n5_ : Aside0 ((((w129.setCell ⟨gb505, 0, none⟩ (.slice Ao130 t499.length co130)).setCell ⟨gb505, 1, none⟩ (.int .i64 t502)).setCell ⟨gb505, 2, none⟩ (.int .i64 t503)).heap[gb505]? = some (.cells #[.slice Ao130 t499.length co130, .int .i64 t502, .int .i64 t503] 49 (0, 0))) := ⟨by exact zp3 (zK BK505.1)⟩
     have n6_ : Aside0 (Below w.heap.size w (((w129.setCell ⟨gb505, 0, none⟩ (.slice Ao130 t499.length co130)).setCell ⟨gb505, 1, none⟩ (.int .i64 t502)).setCell ⟨gb505, 2, none⟩ (.int .i64 t503))) := ⟨zB1⟩
     (try clear HO_6)
     (try clear HO501)
     (try clear BK466)
     (try clear BK467)
     (try clear BK488)
     (try clear BK505)
     (try clear HB)
     generalize (((w129.setCell ⟨gb505, 0, none⟩ (.slice Ao130 t499.length co130)).setCell ⟨gb505, 1, none⟩ (.int .i64 t502)).setCell ⟨gb505, 2, none⟩ (.int .i64 t503)) = w135 at n0_ n1_ n2_ n3_ n4_ n5_ n6_ ⊢
     have HO_6 := n0_
     have HO501 := n1_
     have BK466 := n2_
     have BK467 := n3_
     have BK488 := n4_
     have BK505 := n5_
     have HB := n6_
     clear n0_ n1_ n2_ n3_ n4_ n5_ n6_
     replace HO_6 := zM (Kd.R_drew HO_6.1)
     replace HO501 := zM (Kd.R_drew HO501.1)
     replace BK466 := zM (blk_drew BK466.1)
     replace BK467 := zM (blk_drew BK467.1)
     replace BK488 := zM (blk_drew BK488.1)
     replace BK505 := zM (blk_drew BK505.1)
     replace HB := zM (below_drew1 HB.1)
     refine start_ (n := 4) (S := fun w' => w'.cell? ⟨gb505, 0, none⟩ = some (.slice Ao130 t499.length co130) ∧ w'.cell? ⟨gb505, 1, none⟩ = some (.int .i64 t502) ∧ w'.cell? ⟨gb505, 2, none⟩ = some (.int .i64 t503)) (ds := []) #[false, false, false, false] (by kernel_rfl) rfl rfl ⟨(blk_cell BK505.1 0).trans rfl, (blk_cell BK505.1 1).trans rfl, (blk_cell BK505.1 2).trans rfl⟩ (fun hHeld => ?_)
     generalize w135.drew = w136 at HO_6 HO501 BK466 BK467 BK488 BK505 HB hHeld ⊢
     refine zPu 0 ?_
     refine zPu 2 ?_
     refine zTk3 1 hHeld ?_
     refine zOn 3 none fun K hK => ?_
     obtain ⟨hs137, hfs137⟩ := zHs BK467.1 0
     have hns137_0 := NB466_467.1
     have hns137_2 := NB488_467.1
     have hns137_3 := NB505_467.1
     have hms137_0 := NB467_466.1
     have hms137_2 := NB467_488.1
     have hms137_3 := NB467_505.1
     obtain ⟨hs138, hfs138⟩ := zHs BK467.1 1
     have hns138_0 := NB466_467.1
     have hns138_2 := NB488_467.1
     have hns138_3 := NB505_467.1
     have hms138_0 := NB467_466.1
     have hms138_2 := NB467_488.1
     have hms138_3 := NB467_505.1
     obtain ⟨hs139, hfs139⟩ := zHs BK467.1 2
     have hns139_0 := NB466_467.1
     have hns139_2 := NB488_467.1
     have hns139_3 := NB505_467.1
     have hms139_0 := NB467_466.1
     have hms139_2 := NB467_488.1
     have hms139_3 := NB467_505.1
     refine skip_ (w1 := ?_) (by rfl) rfl ?_ ?_
     rotate_left
     ·go_simp
      rfl
     refine hK.out _ _ zCs fun hHeld => ?_
     clear hK K
     refine done_ (by kernel_rfl) ?_
     try go_wp2
     refine bodyPost_ret (results_tc rfl _ _ gb467 49 #[.slice Ao130 t499.length co130, .int .i64 t502, .int .i64 t503] (0, 0) _ rfl (by exact zp3 (zK BK467.1)) Try.underlying49 rfl (by kernel_rfl)) rfl ?_
     exact ⟨_, _, zE, by refine zrR ?_; exact Kd.R_mono (zfR (zfR (zfR (Kd.R_types HO_6.1 BK467.1 (by decide))))) (fun _ hk => hk.1), by refine zrR ?_; exact Kd.R_mono (zfR (zfR (zfR (Kd.R_types HO501.1 BK467.1 (by decide))))) (fun _ hk => hk.1), zB1⟩
    rw [if_pos c88] at H
    have c88b0 := decide_eq_true c88
    clear c88
    replace H := zIt H
    obtain ⟨c89b0, H⟩ := H
    replace H := zIt H
    obtain ⟨c90b0, H⟩ := H
    generalize hy506 : ((y471.set (t489 : Int).toNat t504) : List Int) = y506 at H
    have Ny506 := zM hy506.symm
    clear hy506
    simp only [Option.some.injEq, Prod.mk.injEq] at H
    obtain ⟨rfl, rfl, rfl, rfl⟩ := H
    have hnb92 := NB466_467.1
    have hnc92 := NB467_466.1
    have hcz93 := zc_3 (w := wc) BK466.1
    have p481 : 0 ≤ (a1_1 : Int) := zA
    have q481 : a1_1 < (l0.length : Int) := zA
    obtain ⟨ad481, e481, hx481_0⟩ := Kd.at_int HR0.1 a1_1 p481 q481
    cases e481
    replace hx481_0 := (HB.1.cell (World.block_lt_of_cell? w _ hx481_0)).trans hx481_0
    replace p481 := eq_true p481
    replace q481 := eq_true q481
    try go_wp2_with (first | ((with_reducible refine zG Try.func77 38 #[.int .i64 (rd l0 a1_1)] ?_); (with_reducible refine (spec_Decode.calls (rd l0 a1_1) t482 t483 t484 t485 t486 t487 _ A30.1).mono ?_); rintro e w94 ⟨rfl, hb⟩; refine ⟨_, rfl, ?_⟩; replace HO_6 := zM (Kd.R_below (zR HO_6.1) hb); replace BK466 := zM (zb BK466.1 hb); replace BK467 := zM (zb BK467.1 hb); replace HB := zM (below_step zB1 hb); clear hb) | ((with_reducible refine zBx 7 71 #[.int .i64 0, .int .i64 0, .int .i64 0, .int .i64 0, .int .i64 0] ?_); intro gb488 hg w95 hbox hb; replace HO_6 := zM (Kd.R_below (zR HO_6.1) hb); have BK488 := zM hbox; have GW488 := zM (zW hg (below_size zB1)); have GE488 := zM (zW hg (below_size zB1)); replace HB := zM (below_step zB1 hb); have NB466_488 := zM ((zn BK466.1 hg : gb466 ≠ gb488)); have NB488_466 := zM ((zm BK466.1 hg : gb488 ≠ gb466)); replace BK466 := zM (zb BK466.1 hb); have NB467_488 := zM ((zn BK467.1 hg : gb467 ≠ gb488)); have NB488_467 := zM ((zm BK467.1 hg : gb488 ≠ gb467)); replace BK467 := zM (zb BK467.1 hb); clear hb hbox hg; have hnb96 := NB488_466.1; have hnc96 := NB466_488.1; have hnb97 := NB488_467.1; have hnc97 := NB467_488.1; have hcz98 := zc_5 (w := w95) BK488.1; have hcz99 := zc_3 (w := w95) BK466.1) | ((with_reducible refine zG Try.func78 44 #[.agg #[.int .i64 t482, .int .i64 t483, .int .i64 t484, .int .i64 t485, .int .i64 t486], .slice A1_0 l1_0.length c1_0] ?_); (with_reducible refine (spec_Target.calls t482 t483 t484 t485 t486 _ _ l1_0 t489 _ ?side1 ?side2 A31.1).mono ?_); (case side1 => exact Kd.C_below HR1_0.1 zB1); (case side2 => exact HC1_0.1); rintro e w100 ⟨rfl, hb⟩; refine ⟨_, rfl, ?_⟩; replace HO_6 := zM (Kd.R_below (by refine zrR ?_; exact (Kd.R_mono (zfR (zfR (zfR (zfR (zfR (Kd.R_types HO_6.1 BK488.1 (by decide))))))) (fun _ h_ => h_.1))) hb); replace BK466 := zM (zf BK466.1 hb); replace BK467 := zM (zf BK467.1 hb); replace BK488 := zM (blk_below (g := gb488) (o := .cells #[.int .i64 t482, .int .i64 t483, .int .i64 t484, .int .i64 t485, .int .i64 t486] 71 (0, 0)) (by exact zp5 (zK BK488.1)) hb); replace HB := zM (below_step zB1 hb); clear hb; have hcz101 := zc_3 (w := w100) BK466.1; have hcz102 := zc_5 (w := w100) BK488.1) | ((with_reducible refine zG Try.func79 55 #[.agg #[.slice A1_0 l1_0.length c1_0, .int .i64 a1_1, .int .i64 a1_2], .agg #[.int .i64 t482, .int .i64 t483, .int .i64 t484, .int .i64 t485, .int .i64 t486], .int .i64 0] ?_); (with_reducible refine (spec_Work.calls kj3 _ _ l1_0 a1_1 a1_2 t482 t483 t484 t485 t486 0 t499 t502 t503 t504 _ ?side1 ?side2 A87.1).mono ?_); (case side1 => exact zC (Kd.C_below HR1_0.1 HB.1)); (case side2 => exact HC1_0.1); rintro e w103 ⟨v500, rfl, ho0, hb⟩; refine ⟨_, rfl, ?_⟩; have HO501 := zM (Kd.R_lower (Kd.R_new' ho0 (Kd.R_lt (zR HO_6.1))) (below_size zB1)); replace HO_6 := zM (Kd.R_elder' (zR HO_6.1) (Kd.R_base ho0) hb); replace BK466 := zM (zb BK466.1 hb); replace BK467 := zM (zb BK467.1 hb); replace BK488 := zM (zb BK488.1 hb); replace HB := zM (below_step zB1 hb); clear hb ho0) | ((with_reducible refine zBx 11 49 #[.slice none 0 0, .int .i64 0, .int .i64 0] ?_); intro gb505 hg w104 hbox hb; replace HO_6 := zM (Kd.R_below (zR HO_6.1) hb); replace HO501 := zM (Kd.R_below (zR HO501.1) hb); have BK505 := zM hbox; have GW505 := zM (zW hg (below_size zB1)); have GE505 := zM (zW hg (below_size zB1)); replace HB := zM (below_step zB1 hb); have NB466_505 := zM ((zn BK466.1 hg : gb466 ≠ gb505)); have NB505_466 := zM ((zm BK466.1 hg : gb505 ≠ gb466)); replace BK466 := zM (zb BK466.1 hb); have NB467_505 := zM ((zn BK467.1 hg : gb467 ≠ gb505)); have NB505_467 := zM ((zm BK467.1 hg : gb505 ≠ gb467)); replace BK467 := zM (zb BK467.1 hb); have NB488_505 := zM ((zn BK488.1 hg : gb488 ≠ gb505)); have NB505_488 := zM ((zm BK488.1 hg : gb505 ≠ gb488)); replace BK488 := zM (zb BK488.1 hb); clear hb hbox hg; obtain ⟨Ao105, co105, eo105⟩ := Kd.R_slice HO501.1; subst eo105; have hnb106 := NB505_466.1; have hnc106 := NB466_505.1; have hnb107 := NB505_467.1; have hnc107 := NB467_505.1; have hnb108 := NB505_488.1; have hnc108 := NB488_505.1; have hcz109 := zc_3 (w := w104) BK505.1) | ((with_reducible refine gate_store (t := 49) (p := 11) rfl ?_); refine store_event (t := 49) (p := 11) (v := ?vo_w110) (w1 := (((w104.setCell ⟨gb505, 0, none⟩ (.slice Ao105 t499.length co105)).setCell ⟨gb505, 1, none⟩ (.int .i64 t502)).setCell ⟨gb505, 2, none⟩ (.int .i64 t503))) ?hg ?ho ?hn ?hr ?_; (case ho => rfl); (case hg => rfl); (case hn => rfl); (case hr => exact zHH); intro w110 hw; have n0_ : Aside0 (Kd.R (Kd.int .i64) 3 w110 w.heap.size (fun k_ => some k_ ≠ (.slice Ao105 t499.length co105 : Value).ownBlock) v472 y471) := ⟨(by rw [hw]; exact (by refine zrR ?_; exact Kd.R_mono (zfR (zfR (zfR (Kd.R_types HO_6.1 BK505.1 (by decide))))) (fun _ hk => hk.1.2)))⟩; have n1_ : Aside0 (Kd.R (Kd.int .i64) 3 w110 w.heap.size (fun k_ => some k_ ≠ (v472 : Value).ownBlock) (.slice Ao105 t499.length co105) t499) := ⟨(by rw [hw]; exact (by refine zrR ?_; exact Kd.R_mono (zfR (zfR (zfR (Kd.R_types HO501.1 BK505.1 (by decide))))) (fun _ hk => hk.1.2)))⟩; have n2_ : Aside0 (w110.heap[gb466]? = some (.cells #[.slice A1_0 l1_0.length c1_0, .int .i64 a1_1, .int .i64 a1_2] 49 (0, 0))) := ⟨(by rw [hw]; exact zPq)⟩; have n3_ : Aside0 (w110.heap[gb467]? = some (.cells #[.slice none 0 0, .int .i64 0, .int .i64 0] 49 (0, 0))) := ⟨(by rw [hw]; exact zPq)⟩; have n4_ : Aside0 (w110.heap[gb488]? = some (.cells #[.int .i64 t482, .int .i64 t483, .int .i64 t484, .int .i64 t485, .int .i64 t486] 71 (0, 0))) := ⟨(by rw [hw]; exact zPq)⟩; have n5_ : Aside0 (w110.heap[gb505]? = some (.cells #[.slice Ao105 t499.length co105, .int .i64 t502, .int .i64 t503] 49 (0, 0))) := ⟨(by rw [hw]; exact (by exact zp3 (zK BK505.1)))⟩; have n6_ : Aside0 (Below w.heap.size w w110) := ⟨(by rw [hw]; exact zB1)⟩; clear hw; clear HO_6; clear HO501; clear BK466; clear BK467; clear BK488; clear BK505; clear HB; have HO_6 := n0_; have HO501 := n1_; have BK466 := n2_; have BK467 := n3_; have BK488 := n4_; have BK505 := n5_; have HB := n6_; clear n0_ n1_ n2_ n3_ n4_ n5_ n6_; have p91 : 0 ≤ (t489 : Int) := zA; have q91 : (t489 : Int) < ((y471.length : Int) : Int) := zA; obtain ⟨go91, co91, eo91, gb91, gl91, cl91, HG91⟩ := Kd.R_form HO_6.1 (by omega); (first | cases eo91 | (injection eo91 with ea_ en_ ec_; (first | subst ea_ | (injection ea_ with ea_; subst ea_)); subst ec_; clear en_)); have GB91 := zM gb91; have GG91 := zM HG91; clear gb91 gl91 HG91; obtain ⟨hx91_0, hf91_0⟩ := Kd.R_celln 0 HO_6.1 (t489 : Int) p91 q91; replace p91 := eq_true p91; replace q91 := eq_true q91; obtain ⟨hy111_, hz111_⟩ := Kd.R_celln 0 HO_6.1 (t489 : Int) zA zA; have HP111 := Kd.R_putg HO_6.1 (t489 : Int) t504) | ((with_reducible refine gate_store (t := 3) (p := 63) rfl ?_); refine store_event (t := 3) (p := 63) (v := ?vo_w112) (w1 := (w110.setCell ⟨go91, (t489 : Int).toNat, none⟩ (.int .i64 t504))) ?hg ?ho ?hn ?hr ?_; (case ho => rfl); (case hg => rfl); (case hn => rfl); (case hr => exact zHH); intro w112 hw; have hg : w110.grownBy w112 (some go91) := (by rw [hw]; exact HP111.2); have hp_ : Kd.R (Kd.int .i64) 3 w112 w.heap.size (fun k_ => some k_ ≠ (.slice Ao105 t499.length co105 : Value).ownBlock) (.slice (some ⟨go91, 0, none⟩) y471.length co91) y506 := (by rw [hw, Ny506.1]; exact HP111.1); clear HP111; replace BK466 := zM (zg BK466.1 hg (Kd.R_ne HO_6.1 BK466.1 (by decide))); replace BK467 := zM (zg BK467.1 hg (Kd.R_ne HO_6.1 BK467.1 (by decide))); replace BK488 := zM (zg BK488.1 hg (Kd.R_ne HO_6.1 BK488.1 (by decide))); replace HO501 := zM (Kd.R_after (v := (.slice (some ⟨go91, 0, none⟩) y471.length co91)) (v1 := (.slice (some ⟨go91, 0, none⟩) y471.length co91)) (ok := (fun _ => True)) (by refine zrR ?_; exact Kd.R_mono HO501.1 (fun _ hk => ⟨trivial, hk⟩)) hg (.inl rfl)); replace BK505 := zM (zg BK505.1 hg (Kd.R_ne HO_6.1 BK505.1 (by decide))); replace HO_6 := zM hp_; replace HB := zM ((by rw [hw]; exact below_set (HB.1) GB91.1 : Below w.heap.size w w112)); clear hg hw hp_))
    replace HO_6 := zM (Kd.R_drew HO_6.1)
    replace HO501 := zM (Kd.R_drew HO501.1)
    replace BK466 := zM (blk_drew BK466.1)
    replace BK467 := zM (blk_drew BK467.1)
    replace BK488 := zM (blk_drew BK488.1)
    replace BK505 := zM (blk_drew BK505.1)
    replace HB := zM (below_drew1 HB.1)
    refine start_ (n := 4) (S := fun w' => w'.cell? ⟨gb505, 0, none⟩ = some (.slice Ao105 t499.length co105) ∧ w'.cell? ⟨gb505, 1, none⟩ = some (.int .i64 t502) ∧ w'.cell? ⟨gb505, 2, none⟩ = some (.int .i64 t503)) (ds := []) #[false, false, false, false] (by kernel_rfl) rfl rfl ⟨(blk_cell BK505.1 0).trans rfl, (blk_cell BK505.1 1).trans rfl, (blk_cell BK505.1 2).trans rfl⟩ (fun hHeld => ?_)
    generalize w112.drew = w113 at HO_6 HO501 BK466 BK467 BK488 BK505 HB hHeld ⊢
    refine zPu 0 ?_
    refine zPu 2 ?_
    refine zTk3 1 hHeld ?_
    refine zOn 3 none fun K hK => ?_
    obtain ⟨hs114, hfs114⟩ := zHs BK467.1 0
    have hns114_0 := NB466_467.1
    have hns114_2 := NB488_467.1
    have hns114_3 := NB505_467.1
    have hms114_0 := NB467_466.1
    have hms114_2 := NB467_488.1
    have hms114_3 := NB467_505.1
    obtain ⟨hs115, hfs115⟩ := zHs BK467.1 1
    have hns115_0 := NB466_467.1
    have hns115_2 := NB488_467.1
    have hns115_3 := NB505_467.1
    have hms115_0 := NB467_466.1
    have hms115_2 := NB467_488.1
    have hms115_3 := NB467_505.1
    obtain ⟨hs116, hfs116⟩ := zHs BK467.1 2
    have hns116_0 := NB466_467.1
    have hns116_2 := NB488_467.1
    have hns116_3 := NB505_467.1
    have hms116_0 := NB467_466.1
    have hms116_2 := NB467_488.1
    have hms116_3 := NB467_505.1
    refine skip_ (w1 := ?_) (by rfl) rfl ?_ ?_
    rotate_left
    ·go_simp
     rfl
    refine hK.out _ _ zCs fun hHeld => ?_
    clear hK K
    refine done_ (by kernel_rfl) ?_
    try go_wp2
    refine bodyPost_ret (results_tc rfl _ _ gb467 49 #[.slice Ao105 t499.length co105, .int .i64 t502, .int .i64 t503] (0, 0) _ rfl (by exact zp3 (zK BK467.1)) Try.underlying49 rfl (by kernel_rfl)) rfl ?_
    exact ⟨_, _, zE, by refine zrR ?_; exact Kd.R_mono (zfR (zfR (zfR (Kd.R_types HO_6.1 BK467.1 (by decide))))) (fun _ hk => hk.1), by refine zrR ?_; exact Kd.R_mono (zfR (zfR (zfR (Kd.R_types HO501.1 BK467.1 (by decide))))) (fun _ hk => hk.1.2), zB1⟩
   rw [if_pos c32] at H
   have c32b0 := decide_eq_true c32
   clear c32
   replace H := zIt H
   obtain ⟨c33b0, H⟩ := H
   replace H := zIt H
   obtain ⟨c34b0, H⟩ := H
   replace H := zO H
   obtain ⟨⟨t491, t494, t495, t496⟩, A35, H⟩ := H
   try dsimp only at H
   by_cases c36 : t496 ≥ 0
   rotate_left
   ·rw [if_neg c36] at H
    have c36b0 := decide_eq_false c36
    clear c36
    simp only [Option.some.injEq, Prod.mk.injEq] at H
    obtain ⟨rfl, rfl, rfl, rfl⟩ := H
    have hnb64 := NB466_467.1
    have hnc64 := NB467_466.1
    have hcz65 := zc_3 (w := wc) BK466.1
    have p481 : 0 ≤ (a1_1 : Int) := zA
    have q481 : a1_1 < (l0.length : Int) := zA
    obtain ⟨ad481, e481, hx481_0⟩ := Kd.at_int HR0.1 a1_1 p481 q481
    cases e481
    replace hx481_0 := (HB.1.cell (World.block_lt_of_cell? w _ hx481_0)).trans hx481_0
    replace p481 := eq_true p481
    replace q481 := eq_true q481
    try go_wp2_with (first | ((with_reducible refine zG Try.func77 38 #[.int .i64 (rd l0 a1_1)] ?_); (with_reducible refine (spec_Decode.calls (rd l0 a1_1) t482 t483 t484 t485 t486 t487 _ A30.1).mono ?_); rintro e w66 ⟨rfl, hb⟩; refine ⟨_, rfl, ?_⟩; replace HO_6 := zM (Kd.R_below (zR HO_6.1) hb); replace BK466 := zM (zb BK466.1 hb); replace BK467 := zM (zb BK467.1 hb); replace HB := zM (below_step zB1 hb); clear hb) | ((with_reducible refine zBx 7 71 #[.int .i64 0, .int .i64 0, .int .i64 0, .int .i64 0, .int .i64 0] ?_); intro gb488 hg w67 hbox hb; replace HO_6 := zM (Kd.R_below (zR HO_6.1) hb); have BK488 := zM hbox; have GW488 := zM (zW hg (below_size zB1)); have GE488 := zM (zW hg (below_size zB1)); replace HB := zM (below_step zB1 hb); have NB466_488 := zM ((zn BK466.1 hg : gb466 ≠ gb488)); have NB488_466 := zM ((zm BK466.1 hg : gb488 ≠ gb466)); replace BK466 := zM (zb BK466.1 hb); have NB467_488 := zM ((zn BK467.1 hg : gb467 ≠ gb488)); have NB488_467 := zM ((zm BK467.1 hg : gb488 ≠ gb467)); replace BK467 := zM (zb BK467.1 hb); clear hb hbox hg; have hnb68 := NB488_466.1; have hnc68 := NB466_488.1; have hnb69 := NB488_467.1; have hnc69 := NB467_488.1; have hcz70 := zc_5 (w := w67) BK488.1; have hcz71 := zc_3 (w := w67) BK466.1) | ((with_reducible refine zG Try.func78 44 #[.agg #[.int .i64 t482, .int .i64 t483, .int .i64 t484, .int .i64 t485, .int .i64 t486], .slice A1_0 l1_0.length c1_0] ?_); (with_reducible refine (spec_Target.calls t482 t483 t484 t485 t486 _ _ l1_0 t489 _ ?side1 ?side2 A31.1).mono ?_); (case side1 => exact Kd.C_below HR1_0.1 zB1); (case side2 => exact HC1_0.1); rintro e w72 ⟨rfl, hb⟩; refine ⟨_, rfl, ?_⟩; replace HO_6 := zM (Kd.R_below (by refine zrR ?_; exact (Kd.R_mono (zfR (zfR (zfR (zfR (zfR (Kd.R_types HO_6.1 BK488.1 (by decide))))))) (fun _ h_ => h_.1))) hb); replace BK466 := zM (zf BK466.1 hb); replace BK467 := zM (zf BK467.1 hb); replace BK488 := zM (blk_below (g := gb488) (o := .cells #[.int .i64 t482, .int .i64 t483, .int .i64 t484, .int .i64 t485, .int .i64 t486] 71 (0, 0)) (by exact zp5 (zK BK488.1)) hb); replace HB := zM (below_step zB1 hb); clear hb; have p490 : 0 ≤ (t489 : Int) := zA; have q490 : t489 < (l0.length : Int) := zA; obtain ⟨ad490, e490, hx490_0⟩ := Kd.at_int HR0.1 t489 p490 q490; obtain rfl : ad481 = ad490 := (by injection e490); replace hx490_0 := (HB.1.cell (World.block_lt_of_cell? w _ hx490_0)).trans hx490_0; replace p490 := eq_true p490; replace q490 := eq_true q490; have hcz73 := zc_3 (w := w72) BK466.1; have hcz74 := zc_5 (w := w72) BK488.1) | ((with_reducible refine zG Try.func79 55 #[.agg #[.slice A1_0 l1_0.length c1_0, .int .i64 a1_1, .int .i64 a1_2], .agg #[.int .i64 t482, .int .i64 t483, .int .i64 t484, .int .i64 t485, .int .i64 t486], .int .i64 (rd l0 t489)] ?_); (with_reducible refine (spec_Work.calls kj3 _ _ l1_0 a1_1 a1_2 t482 t483 t484 t485 t486 (rd l0 t489) t491 t494 t495 t496 _ ?side1 ?side2 A35.1).mono ?_); (case side1 => exact zC (Kd.C_below HR1_0.1 HB.1)); (case side2 => exact HC1_0.1); rintro e w75 ⟨v492, rfl, ho0, hb⟩; refine ⟨_, rfl, ?_⟩; have HO493 := zM (Kd.R_lower (Kd.R_new' ho0 (Kd.R_lt (zR HO_6.1))) (below_size zB1)); replace HO_6 := zM (Kd.R_elder' (zR HO_6.1) (Kd.R_base ho0) hb); replace BK466 := zM (zb BK466.1 hb); replace BK467 := zM (zb BK467.1 hb); replace BK488 := zM (zb BK488.1 hb); replace HB := zM (below_step zB1 hb); clear hb ho0) | ((with_reducible refine zBx 11 49 #[.slice none 0 0, .int .i64 0, .int .i64 0] ?_); intro gb497 hg w76 hbox hb; replace HO_6 := zM (Kd.R_below (zR HO_6.1) hb); replace HO493 := zM (Kd.R_below (zR HO493.1) hb); have BK497 := zM hbox; have GW497 := zM (zW hg (below_size zB1)); have GE497 := zM (zW hg (below_size zB1)); replace HB := zM (below_step zB1 hb); have NB466_497 := zM ((zn BK466.1 hg : gb466 ≠ gb497)); have NB497_466 := zM ((zm BK466.1 hg : gb497 ≠ gb466)); replace BK466 := zM (zb BK466.1 hb); have NB467_497 := zM ((zn BK467.1 hg : gb467 ≠ gb497)); have NB497_467 := zM ((zm BK467.1 hg : gb497 ≠ gb467)); replace BK467 := zM (zb BK467.1 hb); have NB488_497 := zM ((zn BK488.1 hg : gb488 ≠ gb497)); have NB497_488 := zM ((zm BK488.1 hg : gb497 ≠ gb488)); replace BK488 := zM (zb BK488.1 hb); clear hb hbox hg; obtain ⟨Ao77, co77, eo77⟩ := Kd.R_slice HO493.1; subst eo77; have hnb78 := NB497_466.1; have hnc78 := NB466_497.1; have hnb79 := NB497_467.1; have hnc79 := NB467_497.1; have hnb80 := NB497_488.1; have hnc80 := NB488_497.1; have hcz81 := zc_3 (w := w76) BK497.1))
    have n0_ : Aside0 (Kd.R (Kd.int .i64) 3 (((w76.setCell ⟨gb497, 0, none⟩ (.slice Ao77 t491.length co77)).setCell ⟨gb497, 1, none⟩ (.int .i64 t494)).setCell ⟨gb497, 2, none⟩ (.int .i64 t495)) w.heap.size (fun k_ => some k_ ≠ (.slice Ao77 t491.length co77 : Value).ownBlock) v472 y471) := ⟨by refine zrR ?_; exact Kd.R_mono (zfR (zfR (zfR (Kd.R_types HO_6.1 BK497.1 (by decide))))) (fun _ hk => hk.1.2)⟩
    have n1_ : Aside0 (Kd.R (Kd.int .i64) 3 (((w76.setCell ⟨gb497, 0, none⟩ (.slice Ao77 t491.length co77)).setCell ⟨gb497, 1, none⟩ (.int .i64 t494)).setCell ⟨gb497, 2, none⟩ (.int .i64 t495)) w.heap.size (fun k_ => some k_ ≠ (v472 : Value).ownBlock) (.slice Ao77 t491.length co77) t491) := ⟨by refine zrR ?_; exact Kd.R_mono (zfR (zfR (zfR (Kd.R_types HO493.1 BK497.1 (by decide))))) (fun _ hk => hk.1.2)⟩
    have n2_ : Aside0 ((((w76.setCell ⟨gb497, 0, none⟩ (.slice Ao77 t491.length co77)).setCell ⟨gb497, 1, none⟩ (.int .i64 t494)).setCell ⟨gb497, 2, none⟩ (.int .i64 t495)).heap[gb466]? = some (.cells #[.slice A1_0 l1_0.length c1_0, .int .i64 a1_1, .int .i64 a1_2] 49 (0, 0))) := ⟨zPq⟩
    have n3_ : Aside0 ((((w76.setCell ⟨gb497, 0, none⟩ (.slice Ao77 t491.length co77)).setCell ⟨gb497, 1, none⟩ (.int .i64 t494)).setCell ⟨gb497, 2, none⟩ (.int .i64 t495)).heap[gb467]? = some (.cells #[.slice none 0 0, .int .i64 0, .int .i64 0] 49 (0, 0))) := ⟨zPq⟩
    have n4_ : Aside0 ((((w76.setCell ⟨gb497, 0, none⟩ (.slice Ao77 t491.length co77)).setCell ⟨gb497, 1, none⟩ (.int .i64 t494)).setCell ⟨gb497, 2, none⟩ (.int .i64 t495)).heap[gb488]? = some (.cells #[.int .i64 t482, .int .i64 t483, .int .i64 t484, .int .i64 t485, .int .i64 t486] 71 (0, 0))) := ⟨zPq⟩
    have n5_ : Aside0 ((((w76.setCell ⟨gb497, 0, none⟩ (.slice Ao77 t491.length co77)).setCell ⟨gb497, 1, none⟩ (.int .i64 t494)).setCell ⟨gb497, 2, none⟩ (.int .i64 t495)).heap[gb497]? = some (.cells #[.slice Ao77 t491.length co77, .int .i64 t494, .int .i64 t495] 49 (0, 0))) := ⟨by exact zp3 (zK BK497.1)⟩
    have n6_ : Aside0 (Below w.heap.size w (((w76.setCell ⟨gb497, 0, none⟩ (.slice Ao77 t491.length co77)).setCell ⟨gb497, 1, none⟩ (.int .i64 t494)).setCell ⟨gb497, 2, none⟩ (.int .i64 t495))) := ⟨zB1⟩
    (try clear HO_6)
    (try clear HO493)
    (try clear BK466)
    (try clear BK467)
    (try clear BK488)
    (try clear BK497)
    (try clear HB)
    generalize (((w76.setCell ⟨gb497, 0, none⟩ (.slice Ao77 t491.length co77)).setCell ⟨gb497, 1, none⟩ (.int .i64 t494)).setCell ⟨gb497, 2, none⟩ (.int .i64 t495)) = w82 at n0_ n1_ n2_ n3_ n4_ n5_ n6_ ⊢
    have HO_6 := n0_
    have HO493 := n1_
    have BK466 := n2_
    have BK467 := n3_
    have BK488 := n4_
    have BK497 := n5_
    have HB := n6_
    clear n0_ n1_ n2_ n3_ n4_ n5_ n6_
    replace HO_6 := zM (Kd.R_drew HO_6.1)
    replace HO493 := zM (Kd.R_drew HO493.1)
    replace BK466 := zM (blk_drew BK466.1)
    replace BK467 := zM (blk_drew BK467.1)
    replace BK488 := zM (blk_drew BK488.1)
    replace BK497 := zM (blk_drew BK497.1)
    replace HB := zM (below_drew1 HB.1)
    refine start_ (n := 4) (S := fun w' => w'.cell? ⟨gb497, 0, none⟩ = some (.slice Ao77 t491.length co77) ∧ w'.cell? ⟨gb497, 1, none⟩ = some (.int .i64 t494) ∧ w'.cell? ⟨gb497, 2, none⟩ = some (.int .i64 t495)) (ds := []) #[false, false, false, false] (by kernel_rfl) rfl rfl ⟨(blk_cell BK497.1 0).trans rfl, (blk_cell BK497.1 1).trans rfl, (blk_cell BK497.1 2).trans rfl⟩ (fun hHeld => ?_)
    generalize w82.drew = w83 at HO_6 HO493 BK466 BK467 BK488 BK497 HB hHeld ⊢
    refine zPu 0 ?_
    refine zPu 2 ?_
    refine zTk3 1 hHeld ?_
    refine zOn 3 none fun K hK => ?_
    obtain ⟨hs84, hfs84⟩ := zHs BK467.1 0
    have hns84_0 := NB466_467.1
    have hns84_2 := NB488_467.1
    have hns84_3 := NB497_467.1
    have hms84_0 := NB467_466.1
    have hms84_2 := NB467_488.1
    have hms84_3 := NB467_497.1
    obtain ⟨hs85, hfs85⟩ := zHs BK467.1 1
    have hns85_0 := NB466_467.1
    have hns85_2 := NB488_467.1
    have hns85_3 := NB497_467.1
    have hms85_0 := NB467_466.1
    have hms85_2 := NB467_488.1
    have hms85_3 := NB467_497.1
    obtain ⟨hs86, hfs86⟩ := zHs BK467.1 2
    have hns86_0 := NB466_467.1
    have hns86_2 := NB488_467.1
    have hns86_3 := NB497_467.1
    have hms86_0 := NB467_466.1
    have hms86_2 := NB467_488.1
    have hms86_3 := NB467_497.1
    refine skip_ (w1 := ?_) (by rfl) rfl ?_ ?_
    rotate_left
    ·go_simp
     rfl
    refine hK.out _ _ zCs fun hHeld => ?_
    clear hK K
    refine done_ (by kernel_rfl) ?_
    try go_wp2
    refine bodyPost_ret (results_tc rfl _ _ gb467 49 #[.slice Ao77 t491.length co77, .int .i64 t494, .int .i64 t495] (0, 0) _ rfl (by exact zp3 (zK BK467.1)) Try.underlying49 rfl (by kernel_rfl)) rfl ?_
    exact ⟨_, _, zE, by refine zrR ?_; exact Kd.R_mono (zfR (zfR (zfR (Kd.R_types HO_6.1 BK467.1 (by decide))))) (fun _ hk => hk.1), by refine zrR ?_; exact Kd.R_mono (zfR (zfR (zfR (Kd.R_types HO493.1 BK467.1 (by decide))))) (fun _ hk => hk.1), zB1⟩
   rw [if_pos c36] at H
   have c36b0 := decide_eq_true c36
   clear c36
   replace H := zIt H
   obtain ⟨c37b0, H⟩ := H
   generalize hy498 : ((y471.set (t489 : Int).toNat t496) : List Int) = y498 at H
   have Ny498 := zM hy498.symm
   clear hy498
   simp only [Option.some.injEq, Prod.mk.injEq] at H
   obtain ⟨rfl, rfl, rfl, rfl⟩ := H
   have hnb39 := NB466_467.1
   have hnc39 := NB467_466.1
   have hcz40 := zc_3 (w := wc) BK466.1
   have p481 : 0 ≤ (a1_1 : Int) := zA
   have q481 : a1_1 < (l0.length : Int) := zA
   obtain ⟨ad481, e481, hx481_0⟩ := Kd.at_int HR0.1 a1_1 p481 q481
   cases e481
   replace hx481_0 := (HB.1.cell (World.block_lt_of_cell? w _ hx481_0)).trans hx481_0
   replace p481 := eq_true p481
   replace q481 := eq_true q481
   try go_wp2_with (first | ((with_reducible refine zG Try.func77 38 #[.int .i64 (rd l0 a1_1)] ?_); (with_reducible refine (spec_Decode.calls (rd l0 a1_1) t482 t483 t484 t485 t486 t487 _ A30.1).mono ?_); rintro e w41 ⟨rfl, hb⟩; refine ⟨_, rfl, ?_⟩; replace HO_6 := zM (Kd.R_below (zR HO_6.1) hb); replace BK466 := zM (zb BK466.1 hb); replace BK467 := zM (zb BK467.1 hb); replace HB := zM (below_step zB1 hb); clear hb) | ((with_reducible refine zBx 7 71 #[.int .i64 0, .int .i64 0, .int .i64 0, .int .i64 0, .int .i64 0] ?_); intro gb488 hg w42 hbox hb; replace HO_6 := zM (Kd.R_below (zR HO_6.1) hb); have BK488 := zM hbox; have GW488 := zM (zW hg (below_size zB1)); have GE488 := zM (zW hg (below_size zB1)); replace HB := zM (below_step zB1 hb); have NB466_488 := zM ((zn BK466.1 hg : gb466 ≠ gb488)); have NB488_466 := zM ((zm BK466.1 hg : gb488 ≠ gb466)); replace BK466 := zM (zb BK466.1 hb); have NB467_488 := zM ((zn BK467.1 hg : gb467 ≠ gb488)); have NB488_467 := zM ((zm BK467.1 hg : gb488 ≠ gb467)); replace BK467 := zM (zb BK467.1 hb); clear hb hbox hg; have hnb43 := NB488_466.1; have hnc43 := NB466_488.1; have hnb44 := NB488_467.1; have hnc44 := NB467_488.1; have hcz45 := zc_5 (w := w42) BK488.1; have hcz46 := zc_3 (w := w42) BK466.1) | ((with_reducible refine zG Try.func78 44 #[.agg #[.int .i64 t482, .int .i64 t483, .int .i64 t484, .int .i64 t485, .int .i64 t486], .slice A1_0 l1_0.length c1_0] ?_); (with_reducible refine (spec_Target.calls t482 t483 t484 t485 t486 _ _ l1_0 t489 _ ?side1 ?side2 A31.1).mono ?_); (case side1 => exact Kd.C_below HR1_0.1 zB1); (case side2 => exact HC1_0.1); rintro e w47 ⟨rfl, hb⟩; refine ⟨_, rfl, ?_⟩; replace HO_6 := zM (Kd.R_below (by refine zrR ?_; exact (Kd.R_mono (zfR (zfR (zfR (zfR (zfR (Kd.R_types HO_6.1 BK488.1 (by decide))))))) (fun _ h_ => h_.1))) hb); replace BK466 := zM (zf BK466.1 hb); replace BK467 := zM (zf BK467.1 hb); replace BK488 := zM (blk_below (g := gb488) (o := .cells #[.int .i64 t482, .int .i64 t483, .int .i64 t484, .int .i64 t485, .int .i64 t486] 71 (0, 0)) (by exact zp5 (zK BK488.1)) hb); replace HB := zM (below_step zB1 hb); clear hb; have p490 : 0 ≤ (t489 : Int) := zA; have q490 : t489 < (l0.length : Int) := zA; obtain ⟨ad490, e490, hx490_0⟩ := Kd.at_int HR0.1 t489 p490 q490; obtain rfl : ad481 = ad490 := (by injection e490); replace hx490_0 := (HB.1.cell (World.block_lt_of_cell? w _ hx490_0)).trans hx490_0; replace p490 := eq_true p490; replace q490 := eq_true q490; have hcz48 := zc_3 (w := w47) BK466.1; have hcz49 := zc_5 (w := w47) BK488.1) | ((with_reducible refine zG Try.func79 55 #[.agg #[.slice A1_0 l1_0.length c1_0, .int .i64 a1_1, .int .i64 a1_2], .agg #[.int .i64 t482, .int .i64 t483, .int .i64 t484, .int .i64 t485, .int .i64 t486], .int .i64 (rd l0 t489)] ?_); (with_reducible refine (spec_Work.calls kj3 _ _ l1_0 a1_1 a1_2 t482 t483 t484 t485 t486 (rd l0 t489) t491 t494 t495 t496 _ ?side1 ?side2 A35.1).mono ?_); (case side1 => exact zC (Kd.C_below HR1_0.1 HB.1)); (case side2 => exact HC1_0.1); rintro e w50 ⟨v492, rfl, ho0, hb⟩; refine ⟨_, rfl, ?_⟩; have HO493 := zM (Kd.R_lower (Kd.R_new' ho0 (Kd.R_lt (zR HO_6.1))) (below_size zB1)); replace HO_6 := zM (Kd.R_elder' (zR HO_6.1) (Kd.R_base ho0) hb); replace BK466 := zM (zb BK466.1 hb); replace BK467 := zM (zb BK467.1 hb); replace BK488 := zM (zb BK488.1 hb); replace HB := zM (below_step zB1 hb); clear hb ho0) | ((with_reducible refine zBx 11 49 #[.slice none 0 0, .int .i64 0, .int .i64 0] ?_); intro gb497 hg w51 hbox hb; replace HO_6 := zM (Kd.R_below (zR HO_6.1) hb); replace HO493 := zM (Kd.R_below (zR HO493.1) hb); have BK497 := zM hbox; have GW497 := zM (zW hg (below_size zB1)); have GE497 := zM (zW hg (below_size zB1)); replace HB := zM (below_step zB1 hb); have NB466_497 := zM ((zn BK466.1 hg : gb466 ≠ gb497)); have NB497_466 := zM ((zm BK466.1 hg : gb497 ≠ gb466)); replace BK466 := zM (zb BK466.1 hb); have NB467_497 := zM ((zn BK467.1 hg : gb467 ≠ gb497)); have NB497_467 := zM ((zm BK467.1 hg : gb497 ≠ gb467)); replace BK467 := zM (zb BK467.1 hb); have NB488_497 := zM ((zn BK488.1 hg : gb488 ≠ gb497)); have NB497_488 := zM ((zm BK488.1 hg : gb497 ≠ gb488)); replace BK488 := zM (zb BK488.1 hb); clear hb hbox hg; obtain ⟨Ao52, co52, eo52⟩ := Kd.R_slice HO493.1; subst eo52; have hnb53 := NB497_466.1; have hnc53 := NB466_497.1; have hnb54 := NB497_467.1; have hnc54 := NB467_497.1; have hnb55 := NB497_488.1; have hnc55 := NB488_497.1; have hcz56 := zc_3 (w := w51) BK497.1) | ((with_reducible refine gate_store (t := 49) (p := 11) rfl ?_); refine store_event (t := 49) (p := 11) (v := ?vo_w57) (w1 := (((w51.setCell ⟨gb497, 0, none⟩ (.slice Ao52 t491.length co52)).setCell ⟨gb497, 1, none⟩ (.int .i64 t494)).setCell ⟨gb497, 2, none⟩ (.int .i64 t495))) ?hg ?ho ?hn ?hr ?_; (case ho => rfl); (case hg => rfl); (case hn => rfl); (case hr => exact zHH); intro w57 hw; have n0_ : Aside0 (Kd.R (Kd.int .i64) 3 w57 w.heap.size (fun k_ => some k_ ≠ (.slice Ao52 t491.length co52 : Value).ownBlock) v472 y471) := ⟨(by rw [hw]; exact (by refine zrR ?_; exact Kd.R_mono (zfR (zfR (zfR (Kd.R_types HO_6.1 BK497.1 (by decide))))) (fun _ hk => hk.1.2)))⟩; have n1_ : Aside0 (Kd.R (Kd.int .i64) 3 w57 w.heap.size (fun k_ => some k_ ≠ (v472 : Value).ownBlock) (.slice Ao52 t491.length co52) t491) := ⟨(by rw [hw]; exact (by refine zrR ?_; exact Kd.R_mono (zfR (zfR (zfR (Kd.R_types HO493.1 BK497.1 (by decide))))) (fun _ hk => hk.1.2)))⟩; have n2_ : Aside0 (w57.heap[gb466]? = some (.cells #[.slice A1_0 l1_0.length c1_0, .int .i64 a1_1, .int .i64 a1_2] 49 (0, 0))) := ⟨(by rw [hw]; exact zPq)⟩; have n3_ : Aside0 (w57.heap[gb467]? = some (.cells #[.slice none 0 0, .int .i64 0, .int .i64 0] 49 (0, 0))) := ⟨(by rw [hw]; exact zPq)⟩; have n4_ : Aside0 (w57.heap[gb488]? = some (.cells #[.int .i64 t482, .int .i64 t483, .int .i64 t484, .int .i64 t485, .int .i64 t486] 71 (0, 0))) := ⟨(by rw [hw]; exact zPq)⟩; have n5_ : Aside0 (w57.heap[gb497]? = some (.cells #[.slice Ao52 t491.length co52, .int .i64 t494, .int .i64 t495] 49 (0, 0))) := ⟨(by rw [hw]; exact (by exact zp3 (zK BK497.1)))⟩; have n6_ : Aside0 (Below w.heap.size w w57) := ⟨(by rw [hw]; exact zB1)⟩; clear hw; clear HO_6; clear HO493; clear BK466; clear BK467; clear BK488; clear BK497; clear HB; have HO_6 := n0_; have HO493 := n1_; have BK466 := n2_; have BK467 := n3_; have BK488 := n4_; have BK497 := n5_; have HB := n6_; clear n0_ n1_ n2_ n3_ n4_ n5_ n6_; have p38 : 0 ≤ (t489 : Int) := zA; have q38 : (t489 : Int) < ((y471.length : Int) : Int) := zA; obtain ⟨go38, co38, eo38, gb38, gl38, cl38, HG38⟩ := Kd.R_form HO_6.1 (by omega); (first | cases eo38 | (injection eo38 with ea_ en_ ec_; (first | subst ea_ | (injection ea_ with ea_; subst ea_)); subst ec_; clear en_)); have GB38 := zM gb38; have GG38 := zM HG38; clear gb38 gl38 HG38; obtain ⟨hx38_0, hf38_0⟩ := Kd.R_celln 0 HO_6.1 (t489 : Int) p38 q38; replace p38 := eq_true p38; replace q38 := eq_true q38; obtain ⟨hy58_, hz58_⟩ := Kd.R_celln 0 HO_6.1 (t489 : Int) zA zA; have HP58 := Kd.R_putg HO_6.1 (t489 : Int) t496) | ((with_reducible refine gate_store (t := 3) (p := 63) rfl ?_); refine store_event (t := 3) (p := 63) (v := ?vo_w59) (w1 := (w57.setCell ⟨go38, (t489 : Int).toNat, none⟩ (.int .i64 t496))) ?hg ?ho ?hn ?hr ?_; (case ho => rfl); (case hg => rfl); (case hn => rfl); (case hr => exact zHH); intro w59 hw; have hg : w57.grownBy w59 (some go38) := (by rw [hw]; exact HP58.2); have hp_ : Kd.R (Kd.int .i64) 3 w59 w.heap.size (fun k_ => some k_ ≠ (.slice Ao52 t491.length co52 : Value).ownBlock) (.slice (some ⟨go38, 0, none⟩) y471.length co38) y498 := (by rw [hw, Ny498.1]; exact HP58.1); clear HP58; replace BK466 := zM (zg BK466.1 hg (Kd.R_ne HO_6.1 BK466.1 (by decide))); replace BK467 := zM (zg BK467.1 hg (Kd.R_ne HO_6.1 BK467.1 (by decide))); replace BK488 := zM (zg BK488.1 hg (Kd.R_ne HO_6.1 BK488.1 (by decide))); replace HO493 := zM (Kd.R_after (v := (.slice (some ⟨go38, 0, none⟩) y471.length co38)) (v1 := (.slice (some ⟨go38, 0, none⟩) y471.length co38)) (ok := (fun _ => True)) (by refine zrR ?_; exact Kd.R_mono HO493.1 (fun _ hk => ⟨trivial, hk⟩)) hg (.inl rfl)); replace BK497 := zM (zg BK497.1 hg (Kd.R_ne HO_6.1 BK497.1 (by decide))); replace HO_6 := zM hp_; replace HB := zM ((by rw [hw]; exact below_set (HB.1) GB38.1 : Below w.heap.size w w59)); clear hg hw hp_))
   replace HO_6 := zM (Kd.R_drew HO_6.1)
   replace HO493 := zM (Kd.R_drew HO493.1)
   replace BK466 := zM (blk_drew BK466.1)
   replace BK467 := zM (blk_drew BK467.1)
   replace BK488 := zM (blk_drew BK488.1)
   replace BK497 := zM (blk_drew BK497.1)
   replace HB := zM (below_drew1 HB.1)
   refine start_ (n := 4) (S := fun w' => w'.cell? ⟨gb497, 0, none⟩ = some (.slice Ao52 t491.length co52) ∧ w'.cell? ⟨gb497, 1, none⟩ = some (.int .i64 t494) ∧ w'.cell? ⟨gb497, 2, none⟩ = some (.int .i64 t495)) (ds := []) #[false, false, false, false] (by kernel_rfl) rfl rfl ⟨(blk_cell BK497.1 0).trans rfl, (blk_cell BK497.1 1).trans rfl, (blk_cell BK497.1 2).trans rfl⟩ (fun hHeld => ?_)
   generalize w59.drew = w60 at HO_6 HO493 BK466 BK467 BK488 BK497 HB hHeld ⊢
   refine zPu 0 ?_
   refine zPu 2 ?_
   refine zTk3 1 hHeld ?_
   refine zOn 3 none fun K hK => ?_
   obtain ⟨hs61, hfs61⟩ := zHs BK467.1 0
   have hns61_0 := NB466_467.1
   have hns61_2 := NB488_467.1
   have hns61_3 := NB497_467.1
   have hms61_0 := NB467_466.1
   have hms61_2 := NB467_488.1
   have hms61_3 := NB467_497.1
   obtain ⟨hs62, hfs62⟩ := zHs BK467.1 1
   have hns62_0 := NB466_467.1
   have hns62_2 := NB488_467.1
   have hns62_3 := NB497_467.1
   have hms62_0 := NB467_466.1
   have hms62_2 := NB467_488.1
   have hms62_3 := NB467_497.1
   obtain ⟨hs63, hfs63⟩ := zHs BK467.1 2
   have hns63_0 := NB466_467.1
   have hns63_2 := NB488_467.1
   have hns63_3 := NB497_467.1
   have hms63_0 := NB467_466.1
   have hms63_2 := NB467_488.1
   have hms63_3 := NB467_497.1
   refine skip_ (w1 := ?_) (by rfl) rfl ?_ ?_
   rotate_left
   ·go_simp
    rfl
   refine hK.out _ _ zCs fun hHeld => ?_
   clear hK K
   refine done_ (by kernel_rfl) ?_
   try go_wp2
   refine bodyPost_ret (results_tc rfl _ _ gb467 49 #[.slice Ao52 t491.length co52, .int .i64 t494, .int .i64 t495] (0, 0) _ rfl (by exact zp3 (zK BK467.1)) Try.underlying49 rfl (by kernel_rfl)) rfl ?_
   exact ⟨_, _, zE, by refine zrR ?_; exact Kd.R_mono (zfR (zfR (zfR (Kd.R_types HO_6.1 BK467.1 (by decide))))) (fun _ hk => hk.1), by refine zrR ?_; exact Kd.R_mono (zfR (zfR (zfR (Kd.R_types HO493.1 BK467.1 (by decide))))) (fun _ hk => hk.1.2), zB1⟩

end Go.Proofs.Ytgbjengnkbomoaa.PFnRacesOfCounts
