-- made by wip/tools/myprint.py out of the seat's translation
import Derived.Test.YtnjdepmlpdjghaaPFnAllCountsx0
import Derived.Test.YtnjdepmlpdjghaaPFnAllCountsx9
import Derived.Test.YtnjdepmlpdjghaaPFnAllCountsx10
import Derived.Test.YtnjdepmlpdjghaaPFnAllCountsx11
namespace Go.Proofs.Ytnjdepmlpdjghaa.PFnAllCounts
open Go.RowKit Go.Proofs.YtnjdepmlpdjghaaW.PrintWords Go.Proofs.YtnjdepmlpdjghaaW.PrintLast Go.Proofs.YtnjdepmlpdjghaaW.PrintMore
attribute [local go_sem] max2_int min2_int max_two min_two max_three min_three max_four min_four   -- for this text's walks alone
set_option linter.unusedVariables false
set_option linter.unusedSimpArgs false
set_option maxHeartbeats 8000000
set_option maxRecDepth 100000

/-! ### spec_FlatStep: function 77 -/
def spec_FlatStep.j0 : Nat → List Int → List Int → Bool → List Int → Int → Int → Option (List Int × List Int × Int × Int)
 | 0, _, _, _, _, _, _ => none
 | k + 1, x0, x6, x28, x354000, x354001, x354002 => if x28 = true then ((spec_l9Copy.f x354000 x354001 x354002).bind fun bt363 => (some (x6, bt363.1, bt363.2.1, bt363.2.2))) else (if 0 ≤ x354001 then (if x354001 < (x0.length : Int) then ((spec_Decode.f (rd x0 x354001)).bind fun bt369 => ((spec_Target.f bt369.1 bt369.2.1 bt369.2.2.1 bt369.2.2.2.1 bt369.2.2.2.2.1 x354000).bind fun t376 => (if t376 ≥ 0 then (if 0 ≤ t376 then (if t376 < (x0.length : Int) then ((spec_Work.f k x354000 x354001 x354002 bt369.1 bt369.2.1 bt369.2.2.1 bt369.2.2.2.1 bt369.2.2.2.2.1 (rd x0 t376)).bind fun bt378 => (if bt378.2.2.2 ≥ 0 then (if t376 < (x6.length : Int) then (some ((x6.set (t376 : Int).toNat bt378.2.2.2), bt378.1, bt378.2.1, bt378.2.2.1)) else (none)) else (some (x6, bt378.1, bt378.2.1, bt378.2.2.1)))) else (none)) else (none)) else ((spec_Work.f k x354000 x354001 x354002 bt369.1 bt369.2.1 bt369.2.2.1 bt369.2.2.2.1 bt369.2.2.2.2.1 0).bind fun bt386 => (if bt386.2.2.2 ≥ 0 then (if 0 ≤ t376 then (if t376 < (x6.length : Int) then (some ((x6.set (t376 : Int).toNat bt386.2.2.2), bt386.1, bt386.2.1, bt386.2.2.1)) else (none)) else (none)) else (some (x6, bt386.1, bt386.2.1, bt386.2.2.1))))))) else (none)) else (none))
def spec_FlatStep.f (k : Nat) (l0 : List Int) (l1_0 : List Int) (a1_1 : Int) (a1_2 : Int) : Option (List Int × List Int × Int × Int) := (some (([] : List Int) : List Int)).bind fun y355 => (if y355.length + l0.length < 17592186044416 then ((some (y355 ++ l0 : List Int)).bind fun y358 => ((spec_l1Words.f k l0 24).bind fun t361 => (if t361 = true then ((spec_HartOk.f k l1_0 a1_1 a1_2).bind fun t362 => (if t362 = true then (spec_FlatStep.j0 k l0 y358 (a1_2 != 0) l1_0 a1_1 a1_2) else (spec_FlatStep.j0 k l0 y358 true l1_0 a1_1 a1_2))) else (spec_FlatStep.j0 k l0 y358 true l1_0 a1_1 a1_2)))) else (none))
theorem spec_FlatStep.mono_l : ∀ k, (∀ y0 y1 y2 y3 y4 y5, LeO (spec_FlatStep.j0 k y0 y1 y2 y3 y4 y5) (spec_FlatStep.j0 (k + 1) y0 y1 y2 y3 y4 y5))
 | 0 => fun _ _ _ _ _ _ r h => by simp [spec_FlatStep.j0] at h
 | k + 1 => by
  have ih0 := spec_FlatStep.mono_l k
  ·intros
   unfold spec_FlatStep.j0
   have mo0 := @spec_HartOk.mono
   have mo1 := @spec_Work.mono
   have mo2 := @spec_l1Words.mono
   exact zL
theorem spec_FlatStep.mono : ∀ a0 a1 a2 a3 k, LeO (spec_FlatStep.f k a0 a1 a2 a3) (spec_FlatStep.f (k + 1) a0 a1 a2 a3) := by
 intro a0 a1 a2 a3 k
 have ih0 := spec_FlatStep.mono_l k
 unfold spec_FlatStep.f
 have mo0 := @spec_HartOk.mono
 have mo1 := @spec_Work.mono
 have mo2 := @spec_l1Words.mono
 exact zL
theorem spec_FlatStep.calls (k : Nat) (A0 : Option Addr) (c0 : Nat) (l0 : List Int) (A1_0 : Option Addr) (c1_0 : Nat) (l1_0 : List Int) (a1_1 : Int) (a1_2 : Int) (r1 : List Int) (r2 : List Int) (r3 : Int) (r4 : Int) (w : World) (hr0 : Kd.C (Kd.int .i64) w A0 l0.length l0) (hc0 : l0.length ≤ c0) (hr1_0 : Kd.C (Kd.int .i64) w A1_0 l1_0.length l1_0) (hc1_0 : l1_0.length ≤ c1_0) (h : spec_FlatStep.f k l0 l1_0 a1_1 a1_2 = some (r1, r2, r3, r4)) :
  Calls Try.prog 77 #[.slice A0 l0.length c0, .agg #[.slice A1_0 l1_0.length c1_0, .int .i64 a1_1, .int .i64 a1_2]] w fun e w' => ∃ v0_ v1_ : Value, e = .returned (.tuple #[v0_, .agg #[v1_, .int .i64 r3, .int .i64 r4]]) ∧ Kd.R (Kd.int .i64) 3 w' w.heap.size (fun k_ => some k_ ≠ (v1_ : Value).ownBlock) v0_ r1 ∧ Kd.R (Kd.int .i64) 3 w' w.heap.size (fun k_ => some k_ ≠ (v0_ : Value).ownBlock) v1_ r2 ∧ Below w.heap.size w w' := by
 have hu29 := Try.underlying29
 have hu59 := Try.underlying59
 have HR0 := zM hr0
 have HC0 := zM hc0
 clear hr0 hc0
 have HR1_0 := zM hr1_0
 have HC1_0 := zM hc1_0
 clear hr1_0 hc1_0
 have HB := zM (Below.refl w.heap.size w)
 unfold spec_FlatStep.f at h
 have H := h
 clear h
 replace H := zY H
 obtain ⟨y355, Ny355, H⟩ := H
 replace H := zIn H
 obtain ⟨LMc3, H⟩ := H
 replace H := zY H
 obtain ⟨y358, Ny358, H⟩ := H
 have HC4 := zM H
 clear H
 go_enter Try.func77, Try.ntmps77
 go_upto_region 2 with (first | ((with_reducible refine zBx 3 29 #[.slice A1_0 l1_0.length c1_0, .int .i64 a1_1, .int .i64 a1_2] ?_); intro gb353 hg w5 hbox hb; have BK353 := zM hbox; have GW353 := zM (zW hg (below_size zB1)); have GE353 := zM (zW hg (below_size zB1)); replace HB := zM (below_step zB1 hb); clear hb hbox hg) | ((with_reducible refine zBx 5 29 #[.slice none 0 0, .int .i64 0, .int .i64 0] ?_); intro gb354 hg w6 hbox hb; have BK354 := zM hbox; have GW354 := zM (zW hg (below_size zB1)); have GE354 := zM (zW hg (below_size zB1)); replace HB := zM (below_step zB1 hb); have NB353_354 := zM ((zn BK353.1 hg : gb353 ≠ gb354)); have NB354_353 := zM ((zm BK353.1 hg : gb354 ≠ gb353)); replace BK353 := zM (zb BK353.1 hb); clear hb hbox hg) | ((with_reducible refine gate_dst (N := 13) rfl ?_); refine Kd.R_lit (Kd.int .i64) _ 3 ?hg (N := 13) ?hd (xs := ([] : List Int)) (inner := []) (ok := fun _ => True) (okp := fun _ => True) ?hr ?hp (fun _ hk => hk) trivial (Below.refl _ _) (Nat.le_refl _) (by simp) ?_; (case hd => rfl); (case hg => rfl); (case hr => exact zHH); (case hp => exact (Reps.none _ _)); intro v356 w7 ho8 hb hg_ hnew_; clear hg_ hnew_; (first | rw [← Ny355.1] at ho8 | (simp only [Int.reduceToNat] at ho8; rw [← Ny355.1] at ho8)); have HO357 := zM (Kd.R_lower ho8 (below_size zB1)); replace BK353 := zM (zb BK353.1 hb); replace BK354 := zM (zb BK354.1 hb); replace HB := zM (below_step zB1 hb); clear hb ho8) | ((with_reducible refine gate_builtin (b := .append) (xs := #[.tmp 13, .tmp 14]) rfl ?_); at_builtin; refine Kd.R_append_rows (Kd.int .i64) (w0 := w) w.heap.size rfl (.tmp 13) (.tmp 14) 24 3 (.int .i64 0) 8 rfl Try.underlying24 info3 rfl (by decide) (by omega) v356 y355 l0 _ _ _ (fun _ => True) (fun _ => False) rfl rfl ?aO ?aR (fun _ _ h => h) (fun _ h => h.elim) ?aF ?aB ?aS ?aL ?_; (case aR => exact zC (Kd.C_below HR0.1 HB.1)); (case aB => exact zB1); (case aF => exact (fun _ _ => trivial)); (case aO => exact (zR HO357.1)); (case aS => exact (below_size zB1)); (case aL => have := LMc3.out; omega); intro v359 w9 ho hb hg hat; rw [← Ny358.1] at ho; replace BK353 := zM (zg BK353.1 hg (Kd.R_ne HO357.1 BK353.1 (by decide))); replace BK354 := zM (zg BK354.1 hg (Kd.R_ne HO357.1 BK354.1 (by decide))); replace HB := zM hb; have HO360 := zM ho; clear HO357; clear ho hb hg hat))
 (try simp only [Act.put, List.setIfInBounds_toArray, List.set_cons_zero, List.set_cons_succ])
 go_cut [28] (fun v28 wc => ∃ (kq : Nat) (x28_3 : Bool), v28 = .bool x28_3 ∧ Aside0 (spec_FlatStep.j0 kq l0 y358 x28_3 l1_0 a1_1 a1_2 = some (r1, r2, r3, r4)) ∧ Aside0 (kq ≤ k) ∧ Aside0 (Kd.R (Kd.int .i64) 3 wc w.heap.size (fun _ => True) v359 y358) ∧ Aside0 (wc.heap[gb353]? = some (.cells #[(.slice A1_0 l1_0.length c1_0), .int .i64 a1_1, .int .i64 a1_2] 29 (0, 0))) ∧ Aside0 (wc.heap[gb354]? = some (.cells #[(.slice none 0 0), .int .i64 0, .int .i64 0] 29 (0, 0))) ∧ Aside0 (Below w.heap.size w wc))
 case first =>
  have H := HC4.1
  clear HC4
  replace H := zO H
  obtain ⟨t361, A10, H⟩ := H
  by_cases c11 : t361 = true
  rotate_left
  ·replace c11 := Bool.eq_false_iff.mpr c11
   subst c11
   rw [if_neg zF] at H
   have H' := zM H
   clear H
   go_wp2_with (first | ((with_reducible refine zG Try.func53 17 #[.slice A0 l0.length c0, .int .i64 24] ?_); (with_reducible refine (spec_l1Words.calls k _ _ l0 24 false _ ?side1 ?side2 A10.1).mono ?_); (case side1 => exact zC (Kd.C_below HR0.1 HB.1)); (case side2 => exact HC0.1); rintro e w' ⟨rfl, ⟨nd, rfl⟩⟩; refine ⟨_, rfl, ?_⟩))
   go_meet
   case rel => exact ⟨_, (true), zJJ, H', ⟨by first | omega | exact Nat.le_refl _⟩, ⟨zR HO360.1⟩, ⟨zK BK353.1⟩, ⟨zK BK354.1⟩, ⟨zB1⟩⟩
  subst c11
  rw [if_pos rfl] at H
  replace H := zO H
  obtain ⟨t362, A12, H⟩ := H
  by_cases c13 : t362 = true
  rotate_left
  ·replace c13 := Bool.eq_false_iff.mpr c13
   subst c13
   rw [if_neg zF] at H
   have H' := zM H
   clear H
   go_wp2_with (first | ((with_reducible refine zG Try.func53 17 #[.slice A0 l0.length c0, .int .i64 24] ?_); (with_reducible refine (spec_l1Words.calls k _ _ l0 24 true _ ?side1 ?side2 A10.1).mono ?_); (case side1 => exact zC (Kd.C_below HR0.1 HB.1)); (case side2 => exact HC0.1); rintro e w' ⟨rfl, ⟨nd, rfl⟩⟩; refine ⟨_, rfl, ?_⟩; have hnb18 := NB353_354.1; have hnc18 := NB354_353.1; have hcz19 := zc_3 (w := w9) BK353.1) | (go_at_call 52; (with_reducible refine (spec_HartOk.calls k _ _ l1_0 a1_1 a1_2 false _ ?side1 ?side2 A12.1).mono ?_); (case side1 => repeat (first | exact (Kd.C_below HR1_0.1 zB1) | (with_reducible refine Kd.C_alloc ?_ _) | (with_reducible refine Kd.C_drewN ?_ _) | (with_reducible refine Kd.C_drew ?_))); (case side2 => exact HC1_0.1); rintro e w20 ⟨rfl, hb⟩; replace HO360 := zM (Kd.R_below (zR HO360.1) hb); replace BK353 := zM (zb BK353.1 hb); replace BK354 := zM (zb BK354.1 hb); replace HB := zM (below_step zB1 hb); clear hb))
   go_meet
   case rel => exact ⟨_, (true), zJJ, H', ⟨by first | omega | exact Nat.le_refl _⟩, ⟨zR HO360.1⟩, ⟨zK BK353.1⟩, ⟨zK BK354.1⟩, ⟨zB1⟩⟩
  subst c13
  rw [if_pos rfl] at H
  have H' := zM H
  clear H
  go_wp2_with (first | ((with_reducible refine zG Try.func53 17 #[.slice A0 l0.length c0, .int .i64 24] ?_); (with_reducible refine (spec_l1Words.calls k _ _ l0 24 true _ ?side1 ?side2 A10.1).mono ?_); (case side1 => exact zC (Kd.C_below HR0.1 HB.1)); (case side2 => exact HC0.1); rintro e w' ⟨rfl, ⟨nd, rfl⟩⟩; refine ⟨_, rfl, ?_⟩; have hnb14 := NB353_354.1; have hnc14 := NB354_353.1; have hcz15 := zc_3 (w := w9) BK353.1) | (go_at_call 52; (with_reducible refine (spec_HartOk.calls k _ _ l1_0 a1_1 a1_2 true _ ?side1 ?side2 A12.1).mono ?_); (case side1 => repeat (first | exact (Kd.C_below HR1_0.1 zB1) | (with_reducible refine Kd.C_alloc ?_ _) | (with_reducible refine Kd.C_drewN ?_ _) | (with_reducible refine Kd.C_drew ?_))); (case side2 => exact HC1_0.1); rintro e w16 ⟨rfl, hb⟩; replace HO360 := zM (Kd.R_below (zR HO360.1) hb); replace BK353 := zM (zb BK353.1 hb); replace BK354 := zM (zb BK354.1 hb); replace HB := zM (below_step zB1 hb); clear hb; have hcz17 := zc_3 (w := w16) BK353.1))
  go_meet
  case rel => exact ⟨_, ((a1_2 != 0)), zJJ, H', ⟨by first | omega | exact Nat.le_refl _⟩, ⟨zR HO360.1⟩, ⟨zK BK353.1⟩, ⟨zK BK354.1⟩, ⟨zB1⟩⟩
 case rest =>
  clear HC4
  obtain ⟨kq, x28_3, rfl, HA, HJ3, HO_6, BK353, BK354, HB⟩ := hcut
  cases kq with
  | zero => exact absurd HA.1 (by simp [spec_FlatStep.j0])
  | succ kj3 =>
   have H := HA.1
   clear HA
   simp only [spec_FlatStep.j0] at H
   by_cases c21 : x28_3 = true
   ·subst c21
    rw [if_pos rfl] at H
    replace H := zO H
    obtain ⟨⟨t363, t366, t367⟩, A22, H⟩ := H
    try dsimp only at H
    simp only [Option.some.injEq, Prod.mk.injEq] at H
    obtain ⟨rfl, rfl, rfl, rfl⟩ := H
    have hnb23 := NB353_354.1
    have hnc23 := NB354_353.1
    have hcz24 := zc_3 (w := wc) BK353.1
    go_wp2_with (first | ((with_reducible refine zG Try.func104 31 #[.agg #[.slice A1_0 l1_0.length c1_0, .int .i64 a1_1, .int .i64 a1_2]] ?_); (with_reducible refine (spec_l9Copy.calls _ _ l1_0 a1_1 a1_2 t363 t366 t367 _ ?side1 ?side2 A22.1).mono ?_); (case side1 => exact zC (Kd.C_below HR1_0.1 HB.1)); (case side2 => exact HC1_0.1); rintro e w25 ⟨v364, rfl, ho0, hb⟩; refine ⟨_, rfl, ?_⟩; have HO365 := zM (Kd.R_lower (Kd.R_new' ho0 (Kd.R_lt (zR HO_6.1))) (below_size zB1)); replace HO_6 := zM (Kd.R_elder' (zR HO_6.1) (Kd.R_base ho0) hb); replace BK353 := zM (zb BK353.1 hb); replace BK354 := zM (zb BK354.1 hb); replace HB := zM (below_step zB1 hb); clear hb ho0; obtain ⟨Ao26, co26, eo26⟩ := Kd.R_slice HO365.1; subst eo26; have hcz27 := zc_3 (w := w25) BK354.1))
    refine bodyPost_ret (results_tc rfl _ _ gb354 29 #[.slice Ao26 t363.length co26, .int .i64 t366, .int .i64 t367] (0, 0) _ rfl (by exact zp3 (zK BK354.1)) Try.underlying29 rfl (by kernel_rfl)) rfl ?_
    exact ⟨_, _, zE, by refine zrR ?_; exact Kd.R_mono (zfR (zfR (zfR (Kd.R_types HO_6.1 BK354.1 (by decide))))) (fun _ hk => hk.1.2), by refine zrR ?_; exact Kd.R_mono (zfR (zfR (zfR (Kd.R_types HO365.1 BK354.1 (by decide))))) (fun _ hk => hk.1.2), zB1⟩
   replace c21 := Bool.eq_false_iff.mpr c21
   subst c21
   rw [if_neg zF] at H
   replace H := zIt H
   obtain ⟨c28b0, H⟩ := H
   replace H := zIt H
   obtain ⟨c29b0, H⟩ := H
   replace H := zO H
   obtain ⟨⟨t369, t370, t371, t372, t373, t374⟩, A30, H⟩ := H
   try dsimp only at H
   replace H := zO H
   obtain ⟨t376, A31, H⟩ := H
   by_cases c32 : t376 ≥ 0
   rotate_left
   ·rw [if_neg c32] at H
    have c32b0 := decide_eq_false c32
    clear c32
    replace H := zO H
    obtain ⟨⟨t386, t389, t390, t391⟩, A87, H⟩ := H
    try dsimp only at H
    by_cases c88 : t391 ≥ 0
    rotate_left
    ·rw [if_neg c88] at H
     have c88b0 := decide_eq_false c88
     clear c88
     simp only [Option.some.injEq, Prod.mk.injEq] at H
     obtain ⟨rfl, rfl, rfl, rfl⟩ := H
     have hnb117 := NB353_354.1
     have hnc117 := NB354_353.1
     have hcz118 := zc_3 (w := wc) BK353.1
     obtain ⟨p368, q368, ad368, e368, hx368_0⟩ := zRd (Kd.at_int HR0.1 a1_1)
     cases e368
     replace hx368_0 := zHx HB.1 hx368_0
     try go_wp2_with (first | ((with_reducible refine zG Try.func105 38 #[.int .i64 (rd l0 a1_1)] ?_); (with_reducible refine (spec_Decode.calls (rd l0 a1_1) t369 t370 t371 t372 t373 t374 _ A30.1).mono ?_); rintro e w119 ⟨rfl, hb⟩; refine ⟨_, rfl, ?_⟩; replace HO_6 := zM (Kd.R_below (zR HO_6.1) hb); replace BK353 := zM (zb BK353.1 hb); replace BK354 := zM (zb BK354.1 hb); replace HB := zM (below_step zB1 hb); clear hb) | ((with_reducible refine zBx 7 59 #[.int .i64 0, .int .i64 0, .int .i64 0, .int .i64 0, .int .i64 0] ?_); intro gb375 hg w120 hbox hb; replace HO_6 := zM (Kd.R_below (zR HO_6.1) hb); have BK375 := zM hbox; have GW375 := zM (zW hg (below_size zB1)); have GE375 := zM (zW hg (below_size zB1)); replace HB := zM (below_step zB1 hb); have NB353_375 := zM ((zn BK353.1 hg : gb353 ≠ gb375)); have NB375_353 := zM ((zm BK353.1 hg : gb375 ≠ gb353)); replace BK353 := zM (zb BK353.1 hb); have NB354_375 := zM ((zn BK354.1 hg : gb354 ≠ gb375)); have NB375_354 := zM ((zm BK354.1 hg : gb375 ≠ gb354)); replace BK354 := zM (zb BK354.1 hb); clear hb hbox hg; have hnb121 := NB375_353.1; have hnc121 := NB353_375.1; have hnb122 := NB375_354.1; have hnc122 := NB354_375.1; have hcz123 := zc_5 (w := w120) BK375.1; have hcz124 := zc_3 (w := w120) BK353.1) | ((with_reducible refine zG Try.func106 44 #[.agg #[.int .i64 t369, .int .i64 t370, .int .i64 t371, .int .i64 t372, .int .i64 t373], .slice A1_0 l1_0.length c1_0] ?_); (with_reducible refine (spec_Target.calls t369 t370 t371 t372 t373 _ _ l1_0 t376 _ ?side1 ?side2 A31.1).mono ?_); (case side1 => exact Kd.C_below HR1_0.1 zB1); (case side2 => exact HC1_0.1); rintro e w125 ⟨rfl, hb⟩; refine ⟨_, rfl, ?_⟩; replace HO_6 := zM (Kd.R_below (by refine zrR ?_; exact (Kd.R_mono (zfR (zfR (zfR (zfR (zfR (Kd.R_types HO_6.1 BK375.1 (by decide))))))) (fun _ h_ => h_.1))) hb); replace BK353 := zM (zf BK353.1 hb); replace BK354 := zM (zf BK354.1 hb); replace BK375 := zM (blk_below (g := gb375) (o := .cells #[.int .i64 t369, .int .i64 t370, .int .i64 t371, .int .i64 t372, .int .i64 t373] 59 (0, 0)) (by exact zp5 (zK BK375.1)) hb); replace HB := zM (below_step zB1 hb); clear hb; have hcz126 := zc_3 (w := w125) BK353.1; have hcz127 := zc_5 (w := w125) BK375.1) | ((with_reducible refine zG Try.func107 55 #[.agg #[.slice A1_0 l1_0.length c1_0, .int .i64 a1_1, .int .i64 a1_2], .agg #[.int .i64 t369, .int .i64 t370, .int .i64 t371, .int .i64 t372, .int .i64 t373], .int .i64 0] ?_); (with_reducible refine (spec_Work.calls kj3 _ _ l1_0 a1_1 a1_2 t369 t370 t371 t372 t373 0 t386 t389 t390 t391 _ ?side1 ?side2 A87.1).mono ?_); (case side1 => exact zC (Kd.C_below HR1_0.1 HB.1)); (case side2 => exact HC1_0.1); rintro e w128 ⟨v387, rfl, ho0, hb⟩; refine ⟨_, rfl, ?_⟩; have HO388 := zM (Kd.R_lower (Kd.R_new' ho0 (Kd.R_lt (zR HO_6.1))) (below_size zB1)); replace HO_6 := zM (Kd.R_elder' (zR HO_6.1) (Kd.R_base ho0) hb); replace BK353 := zM (zb BK353.1 hb); replace BK354 := zM (zb BK354.1 hb); replace BK375 := zM (zb BK375.1 hb); replace HB := zM (below_step zB1 hb); clear hb ho0) | ((with_reducible refine zBx 11 29 #[.slice none 0 0, .int .i64 0, .int .i64 0] ?_); intro gb392 hg w129 hbox hb; replace HO_6 := zM (Kd.R_below (zR HO_6.1) hb); replace HO388 := zM (Kd.R_below (zR HO388.1) hb); have BK392 := zM hbox; have GW392 := zM (zW hg (below_size zB1)); have GE392 := zM (zW hg (below_size zB1)); replace HB := zM (below_step zB1 hb); have NB353_392 := zM ((zn BK353.1 hg : gb353 ≠ gb392)); have NB392_353 := zM ((zm BK353.1 hg : gb392 ≠ gb353)); replace BK353 := zM (zb BK353.1 hb); have NB354_392 := zM ((zn BK354.1 hg : gb354 ≠ gb392)); have NB392_354 := zM ((zm BK354.1 hg : gb392 ≠ gb354)); replace BK354 := zM (zb BK354.1 hb); have NB375_392 := zM ((zn BK375.1 hg : gb375 ≠ gb392)); have NB392_375 := zM ((zm BK375.1 hg : gb392 ≠ gb375)); replace BK375 := zM (zb BK375.1 hb); clear hb hbox hg; obtain ⟨Ao130, co130, eo130⟩ := Kd.R_slice HO388.1; subst eo130; have hnb131 := NB392_353.1; have hnc131 := NB353_392.1; have hnb132 := NB392_354.1; have hnc132 := NB354_392.1; have hnb133 := NB392_375.1; have hnc133 := NB375_392.1; have hcz134 := zc_3 (w := w129) BK392.1))
     generalize hw_ : (((w129.setCell ⟨gb392, 0, none⟩ (.slice Ao130 t386.length co130)).setCell ⟨gb392, 1, none⟩ (.int .i64 t389)).setCell ⟨gb392, 2, none⟩ (.int .i64 t390)) = w135
     have n0_ : Aside0 (Kd.R (Kd.int .i64) 3 w135 w.heap.size (fun k_ => some k_ ≠ (.slice Ao130 t386.length co130 : Value).ownBlock) v359 y358) := ⟨by rw [← hw_]; refine zrR ?_; exact Kd.R_mono (zfR (zfR (zfR (Kd.R_types HO_6.1 BK392.1 (by decide))))) (fun _ hk => hk.1.2)⟩
     have n1_ : Aside0 (Kd.R (Kd.int .i64) 3 w135 w.heap.size (fun k_ => some k_ ≠ (v359 : Value).ownBlock) (.slice Ao130 t386.length co130) t386) := ⟨by rw [← hw_]; refine zrR ?_; exact Kd.R_mono (zfR (zfR (zfR (Kd.R_types HO388.1 BK392.1 (by decide))))) (fun _ hk => hk.1.2)⟩
     have n2_ : Aside0 (w135.heap[gb353]? = some (.cells #[.slice A1_0 l1_0.length c1_0, .int .i64 a1_1, .int .i64 a1_2] 29 (0, 0))) := ⟨by rw [← hw_]; exact zPq⟩
     have n3_ : Aside0 (w135.heap[gb354]? = some (.cells #[.slice none 0 0, .int .i64 0, .int .i64 0] 29 (0, 0))) := ⟨by rw [← hw_]; exact zPq⟩
     have n4_ : Aside0 (w135.heap[gb375]? = some (.cells #[.int .i64 t369, .int .i64 t370, .int .i64 t371, .int .i64 t372, .int .i64 t373] 59 (0, 0))) := ⟨by rw [← hw_]; exact zPq⟩
     have n5_ : Aside0 (w135.heap[gb392]? = some (.cells #[.slice Ao130 t386.length co130, .int .i64 t389, .int .i64 t390] 29 (0, 0))) := ⟨by rw [← hw_]; exact zp3 (zK BK392.1)⟩
     have n6_ : Aside0 (Below w.heap.size w w135) := ⟨by rw [← hw_]; exact zB1⟩
     (try clear HO_6)
     (try clear HO388)
     (try clear BK353)
     (try clear BK354)
     (try clear BK375)
     (try clear BK392)
     (try clear HB)
     clear hw_
     have HO_6 := n0_
     have HO388 := n1_
     have BK353 := n2_
     have BK354 := n3_
     have BK375 := n4_
     have BK392 := n5_
     have HB := n6_
     clear n0_ n1_ n2_ n3_ n4_ n5_ n6_
     replace HO_6 := zM (Kd.R_drew HO_6.1)
     replace HO388 := zM (Kd.R_drew HO388.1)
     replace BK353 := zM (blk_drew BK353.1)
     replace BK354 := zM (blk_drew BK354.1)
     replace BK375 := zM (blk_drew BK375.1)
     replace BK392 := zM (blk_drew BK392.1)
     replace HB := zM (below_drew1 HB.1)
     refine start_ (n := 4) (S := fun w' => w'.cell? ⟨gb392, 0, none⟩ = some (.slice Ao130 t386.length co130) ∧ w'.cell? ⟨gb392, 1, none⟩ = some (.int .i64 t389) ∧ w'.cell? ⟨gb392, 2, none⟩ = some (.int .i64 t390)) (ds := []) #[false, false, false, false] (by kernel_rfl) rfl rfl ⟨(blk_cell BK392.1 0).trans rfl, (blk_cell BK392.1 1).trans rfl, (blk_cell BK392.1 2).trans rfl⟩ (fun hHeld => ?_)
     generalize w135.drew = w136 at HO_6 HO388 BK353 BK354 BK375 BK392 HB hHeld ⊢
     refine zPu 0 ?_
     refine zPu 2 ?_
     refine zTk3 1 hHeld ?_
     refine zOn 3 none fun K hK => ?_
     obtain ⟨hs137, hfs137⟩ := zHs BK354.1 0
     have hns137_0 := NB353_354.1
     have hns137_2 := NB375_354.1
     have hns137_3 := NB392_354.1
     have hms137_0 := NB354_353.1
     have hms137_2 := NB354_375.1
     have hms137_3 := NB354_392.1
     obtain ⟨hs138, hfs138⟩ := zHs BK354.1 1
     have hns138_0 := NB353_354.1
     have hns138_2 := NB375_354.1
     have hns138_3 := NB392_354.1
     have hms138_0 := NB354_353.1
     have hms138_2 := NB354_375.1
     have hms138_3 := NB354_392.1
     obtain ⟨hs139, hfs139⟩ := zHs BK354.1 2
     have hns139_0 := NB353_354.1
     have hns139_2 := NB375_354.1
     have hns139_3 := NB392_354.1
     have hms139_0 := NB354_353.1
     have hms139_2 := NB354_375.1
     have hms139_3 := NB354_392.1
     refine skip_ (w1 := ?_) (by rfl) rfl ?_ ?_
     rotate_left
     ·go_simp
      rfl
     refine hK.out _ _ zCs fun hHeld => ?_
     clear hK K
     refine done_ (by kernel_rfl) ?_
     try go_wp2
     refine bodyPost_ret (results_tc rfl _ _ gb354 29 #[.slice Ao130 t386.length co130, .int .i64 t389, .int .i64 t390] (0, 0) _ rfl (by exact zp3 (zK BK354.1)) Try.underlying29 rfl (by kernel_rfl)) rfl ?_
     exact ⟨_, _, zE, by refine zrR ?_; exact Kd.R_mono (zfR (zfR (zfR (Kd.R_types HO_6.1 BK354.1 (by decide))))) (fun _ hk => hk.1), by refine zrR ?_; exact Kd.R_mono (zfR (zfR (zfR (Kd.R_types HO388.1 BK354.1 (by decide))))) (fun _ hk => hk.1), zB1⟩
    rw [if_pos c88] at H
    have c88b0 := decide_eq_true c88
    clear c88
    replace H := zIt H
    obtain ⟨c89b0, H⟩ := H
    replace H := zIt H
    obtain ⟨c90b0, H⟩ := H
    generalize hy393 : ((y358.set (t376 : Int).toNat t391) : List Int) = y393 at H
    have Ny393 := zM hy393.symm
    clear hy393
    simp only [Option.some.injEq, Prod.mk.injEq] at H
    obtain ⟨rfl, rfl, rfl, rfl⟩ := H
    have hnb92 := NB353_354.1
    have hnc92 := NB354_353.1
    have hcz93 := zc_3 (w := wc) BK353.1
    obtain ⟨p368, q368, ad368, e368, hx368_0⟩ := zRd (Kd.at_int HR0.1 a1_1)
    cases e368
    replace hx368_0 := zHx HB.1 hx368_0
    try go_wp2_with (first | ((with_reducible refine zG Try.func105 38 #[.int .i64 (rd l0 a1_1)] ?_); (with_reducible refine (spec_Decode.calls (rd l0 a1_1) t369 t370 t371 t372 t373 t374 _ A30.1).mono ?_); rintro e w94 ⟨rfl, hb⟩; refine ⟨_, rfl, ?_⟩; replace HO_6 := zM (Kd.R_below (zR HO_6.1) hb); replace BK353 := zM (zb BK353.1 hb); replace BK354 := zM (zb BK354.1 hb); replace HB := zM (below_step zB1 hb); clear hb) | ((with_reducible refine zBx 7 59 #[.int .i64 0, .int .i64 0, .int .i64 0, .int .i64 0, .int .i64 0] ?_); intro gb375 hg w95 hbox hb; replace HO_6 := zM (Kd.R_below (zR HO_6.1) hb); have BK375 := zM hbox; have GW375 := zM (zW hg (below_size zB1)); have GE375 := zM (zW hg (below_size zB1)); replace HB := zM (below_step zB1 hb); have NB353_375 := zM ((zn BK353.1 hg : gb353 ≠ gb375)); have NB375_353 := zM ((zm BK353.1 hg : gb375 ≠ gb353)); replace BK353 := zM (zb BK353.1 hb); have NB354_375 := zM ((zn BK354.1 hg : gb354 ≠ gb375)); have NB375_354 := zM ((zm BK354.1 hg : gb375 ≠ gb354)); replace BK354 := zM (zb BK354.1 hb); clear hb hbox hg; have hnb96 := NB375_353.1; have hnc96 := NB353_375.1; have hnb97 := NB375_354.1; have hnc97 := NB354_375.1; have hcz98 := zc_5 (w := w95) BK375.1; have hcz99 := zc_3 (w := w95) BK353.1) | ((with_reducible refine zG Try.func106 44 #[.agg #[.int .i64 t369, .int .i64 t370, .int .i64 t371, .int .i64 t372, .int .i64 t373], .slice A1_0 l1_0.length c1_0] ?_); (with_reducible refine (spec_Target.calls t369 t370 t371 t372 t373 _ _ l1_0 t376 _ ?side1 ?side2 A31.1).mono ?_); (case side1 => exact Kd.C_below HR1_0.1 zB1); (case side2 => exact HC1_0.1); rintro e w100 ⟨rfl, hb⟩; refine ⟨_, rfl, ?_⟩; replace HO_6 := zM (Kd.R_below (by refine zrR ?_; exact (Kd.R_mono (zfR (zfR (zfR (zfR (zfR (Kd.R_types HO_6.1 BK375.1 (by decide))))))) (fun _ h_ => h_.1))) hb); replace BK353 := zM (zf BK353.1 hb); replace BK354 := zM (zf BK354.1 hb); replace BK375 := zM (blk_below (g := gb375) (o := .cells #[.int .i64 t369, .int .i64 t370, .int .i64 t371, .int .i64 t372, .int .i64 t373] 59 (0, 0)) (by exact zp5 (zK BK375.1)) hb); replace HB := zM (below_step zB1 hb); clear hb; have hcz101 := zc_3 (w := w100) BK353.1; have hcz102 := zc_5 (w := w100) BK375.1) | ((with_reducible refine zG Try.func107 55 #[.agg #[.slice A1_0 l1_0.length c1_0, .int .i64 a1_1, .int .i64 a1_2], .agg #[.int .i64 t369, .int .i64 t370, .int .i64 t371, .int .i64 t372, .int .i64 t373], .int .i64 0] ?_); (with_reducible refine (spec_Work.calls kj3 _ _ l1_0 a1_1 a1_2 t369 t370 t371 t372 t373 0 t386 t389 t390 t391 _ ?side1 ?side2 A87.1).mono ?_); (case side1 => exact zC (Kd.C_below HR1_0.1 HB.1)); (case side2 => exact HC1_0.1); rintro e w103 ⟨v387, rfl, ho0, hb⟩; refine ⟨_, rfl, ?_⟩; have HO388 := zM (Kd.R_lower (Kd.R_new' ho0 (Kd.R_lt (zR HO_6.1))) (below_size zB1)); replace HO_6 := zM (Kd.R_elder' (zR HO_6.1) (Kd.R_base ho0) hb); replace BK353 := zM (zb BK353.1 hb); replace BK354 := zM (zb BK354.1 hb); replace BK375 := zM (zb BK375.1 hb); replace HB := zM (below_step zB1 hb); clear hb ho0) | ((with_reducible refine zBx 11 29 #[.slice none 0 0, .int .i64 0, .int .i64 0] ?_); intro gb392 hg w104 hbox hb; replace HO_6 := zM (Kd.R_below (zR HO_6.1) hb); replace HO388 := zM (Kd.R_below (zR HO388.1) hb); have BK392 := zM hbox; have GW392 := zM (zW hg (below_size zB1)); have GE392 := zM (zW hg (below_size zB1)); replace HB := zM (below_step zB1 hb); have NB353_392 := zM ((zn BK353.1 hg : gb353 ≠ gb392)); have NB392_353 := zM ((zm BK353.1 hg : gb392 ≠ gb353)); replace BK353 := zM (zb BK353.1 hb); have NB354_392 := zM ((zn BK354.1 hg : gb354 ≠ gb392)); have NB392_354 := zM ((zm BK354.1 hg : gb392 ≠ gb354)); replace BK354 := zM (zb BK354.1 hb); have NB375_392 := zM ((zn BK375.1 hg : gb375 ≠ gb392)); have NB392_375 := zM ((zm BK375.1 hg : gb392 ≠ gb375)); replace BK375 := zM (zb BK375.1 hb); clear hb hbox hg; obtain ⟨Ao105, co105, eo105⟩ := Kd.R_slice HO388.1; subst eo105; have hnb106 := NB392_353.1; have hnc106 := NB353_392.1; have hnb107 := NB392_354.1; have hnc107 := NB354_392.1; have hnb108 := NB392_375.1; have hnc108 := NB375_392.1; have hcz109 := zc_3 (w := w104) BK392.1) | ((with_reducible refine gate_store (t := 29) (p := 11) rfl ?_); refine store_event (t := 29) (p := 11) (v := ?vo_w110) (w1 := (((w104.setCell ⟨gb392, 0, none⟩ (.slice Ao105 t386.length co105)).setCell ⟨gb392, 1, none⟩ (.int .i64 t389)).setCell ⟨gb392, 2, none⟩ (.int .i64 t390))) ?hg ?ho ?hn ?hr ?_; (case ho => rfl); (case hg => rfl); (case hn => rfl); (case hr => exact zHH); intro w110 hw; have n0_ : Aside0 (Kd.R (Kd.int .i64) 3 w110 w.heap.size (fun k_ => some k_ ≠ (.slice Ao105 t386.length co105 : Value).ownBlock) v359 y358) := ⟨(by rw [hw]; exact (by refine zrR ?_; exact Kd.R_mono (zfR (zfR (zfR (Kd.R_types HO_6.1 BK392.1 (by decide))))) (fun _ hk => hk.1.2)))⟩; have n1_ : Aside0 (Kd.R (Kd.int .i64) 3 w110 w.heap.size (fun k_ => some k_ ≠ (v359 : Value).ownBlock) (.slice Ao105 t386.length co105) t386) := ⟨(by rw [hw]; exact (by refine zrR ?_; exact Kd.R_mono (zfR (zfR (zfR (Kd.R_types HO388.1 BK392.1 (by decide))))) (fun _ hk => hk.1.2)))⟩; have n2_ : Aside0 (w110.heap[gb353]? = some (.cells #[.slice A1_0 l1_0.length c1_0, .int .i64 a1_1, .int .i64 a1_2] 29 (0, 0))) := ⟨(by rw [hw]; exact zPq)⟩; have n3_ : Aside0 (w110.heap[gb354]? = some (.cells #[.slice none 0 0, .int .i64 0, .int .i64 0] 29 (0, 0))) := ⟨(by rw [hw]; exact zPq)⟩; have n4_ : Aside0 (w110.heap[gb375]? = some (.cells #[.int .i64 t369, .int .i64 t370, .int .i64 t371, .int .i64 t372, .int .i64 t373] 59 (0, 0))) := ⟨(by rw [hw]; exact zPq)⟩; have n5_ : Aside0 (w110.heap[gb392]? = some (.cells #[.slice Ao105 t386.length co105, .int .i64 t389, .int .i64 t390] 29 (0, 0))) := ⟨(by rw [hw]; exact (by exact zp3 (zK BK392.1)))⟩; have n6_ : Aside0 (Below w.heap.size w w110) := ⟨(by rw [hw]; exact zB1)⟩; clear hw; clear HO_6; clear HO388; clear BK353; clear BK354; clear BK375; clear BK392; clear HB; have HO_6 := n0_; have HO388 := n1_; have BK353 := n2_; have BK354 := n3_; have BK375 := n4_; have BK392 := n5_; have HB := n6_; clear n0_ n1_ n2_ n3_ n4_ n5_ n6_; have p91 : 0 ≤ (t376 : Int) := zA; have q91 : (t376 : Int) < ((y358.length : Int) : Int) := zA; obtain ⟨go91, co91, eo91, gb91, gl91, cl91, HG91⟩ := Kd.R_form HO_6.1 (by omega); (first | cases eo91 | (injection eo91 with ea_ en_ ec_; (first | subst ea_ | (injection ea_ with ea_; subst ea_)); subst ec_; clear en_)); have GB91 := zM gb91; have GG91 := zM HG91; clear gb91 gl91 HG91; obtain ⟨hx91_0, hf91_0⟩ := Kd.R_celln 0 HO_6.1 (t376 : Int) p91 q91; replace p91 := eq_true p91; replace q91 := eq_true q91; obtain ⟨hy111_, hz111_⟩ := Kd.R_celln 0 HO_6.1 (t376 : Int) zA zA; have HP111 := Kd.R_putg HO_6.1 (t376 : Int) t391) | ((with_reducible refine gate_store (t := 3) (p := 63) rfl ?_); refine store_event (t := 3) (p := 63) (v := ?vo_w112) (w1 := (w110.setCell ⟨go91, (t376 : Int).toNat, none⟩ (.int .i64 t391))) ?hg ?ho ?hn ?hr ?_; (case ho => rfl); (case hg => rfl); (case hn => rfl); (case hr => exact zHH); intro w112 hw; have hg : w110.grownBy w112 (some go91) := (by rw [hw]; exact HP111.2); have hp_ : Kd.R (Kd.int .i64) 3 w112 w.heap.size (fun k_ => some k_ ≠ (.slice Ao105 t386.length co105 : Value).ownBlock) (.slice (some ⟨go91, 0, none⟩) y358.length co91) y393 := (by rw [hw, Ny393.1]; exact HP111.1); clear HP111; replace BK353 := zM (zg BK353.1 hg (Kd.R_ne HO_6.1 BK353.1 (by decide))); replace BK354 := zM (zg BK354.1 hg (Kd.R_ne HO_6.1 BK354.1 (by decide))); replace BK375 := zM (zg BK375.1 hg (Kd.R_ne HO_6.1 BK375.1 (by decide))); replace HO388 := zM (Kd.R_after (v := (.slice (some ⟨go91, 0, none⟩) y358.length co91)) (v1 := (.slice (some ⟨go91, 0, none⟩) y358.length co91)) (ok := (fun _ => True)) (by refine zrR ?_; exact Kd.R_mono HO388.1 (fun _ hk => ⟨trivial, hk⟩)) hg (.inl rfl)); replace BK392 := zM (zg BK392.1 hg (Kd.R_ne HO_6.1 BK392.1 (by decide))); replace HO_6 := zM hp_; replace HB := zM ((by rw [hw]; exact below_set (HB.1) GB91.1 : Below w.heap.size w w112)); clear hg hw hp_))
    replace HO_6 := zM (Kd.R_drew HO_6.1)
    replace HO388 := zM (Kd.R_drew HO388.1)
    replace BK353 := zM (blk_drew BK353.1)
    replace BK354 := zM (blk_drew BK354.1)
    replace BK375 := zM (blk_drew BK375.1)
    replace BK392 := zM (blk_drew BK392.1)
    replace HB := zM (below_drew1 HB.1)
    refine start_ (n := 4) (S := fun w' => w'.cell? ⟨gb392, 0, none⟩ = some (.slice Ao105 t386.length co105) ∧ w'.cell? ⟨gb392, 1, none⟩ = some (.int .i64 t389) ∧ w'.cell? ⟨gb392, 2, none⟩ = some (.int .i64 t390)) (ds := []) #[false, false, false, false] (by kernel_rfl) rfl rfl ⟨(blk_cell BK392.1 0).trans rfl, (blk_cell BK392.1 1).trans rfl, (blk_cell BK392.1 2).trans rfl⟩ (fun hHeld => ?_)
    generalize w112.drew = w113 at HO_6 HO388 BK353 BK354 BK375 BK392 HB hHeld ⊢
    refine zPu 0 ?_
    refine zPu 2 ?_
    refine zTk3 1 hHeld ?_
    refine zOn 3 none fun K hK => ?_
    obtain ⟨hs114, hfs114⟩ := zHs BK354.1 0
    have hns114_0 := NB353_354.1
    have hns114_2 := NB375_354.1
    have hns114_3 := NB392_354.1
    have hms114_0 := NB354_353.1
    have hms114_2 := NB354_375.1
    have hms114_3 := NB354_392.1
    obtain ⟨hs115, hfs115⟩ := zHs BK354.1 1
    have hns115_0 := NB353_354.1
    have hns115_2 := NB375_354.1
    have hns115_3 := NB392_354.1
    have hms115_0 := NB354_353.1
    have hms115_2 := NB354_375.1
    have hms115_3 := NB354_392.1
    obtain ⟨hs116, hfs116⟩ := zHs BK354.1 2
    have hns116_0 := NB353_354.1
    have hns116_2 := NB375_354.1
    have hns116_3 := NB392_354.1
    have hms116_0 := NB354_353.1
    have hms116_2 := NB354_375.1
    have hms116_3 := NB354_392.1
    refine skip_ (w1 := ?_) (by rfl) rfl ?_ ?_
    rotate_left
    ·go_simp
     rfl
    refine hK.out _ _ zCs fun hHeld => ?_
    clear hK K
    refine done_ (by kernel_rfl) ?_
    try go_wp2
    refine bodyPost_ret (results_tc rfl _ _ gb354 29 #[.slice Ao105 t386.length co105, .int .i64 t389, .int .i64 t390] (0, 0) _ rfl (by exact zp3 (zK BK354.1)) Try.underlying29 rfl (by kernel_rfl)) rfl ?_
    exact ⟨_, _, zE, by refine zrR ?_; exact Kd.R_mono (zfR (zfR (zfR (Kd.R_types HO_6.1 BK354.1 (by decide))))) (fun _ hk => hk.1), by refine zrR ?_; exact Kd.R_mono (zfR (zfR (zfR (Kd.R_types HO388.1 BK354.1 (by decide))))) (fun _ hk => hk.1.2), zB1⟩
   rw [if_pos c32] at H
   have c32b0 := decide_eq_true c32
   clear c32
   replace H := zIt H
   obtain ⟨c33b0, H⟩ := H
   replace H := zIt H
   obtain ⟨c34b0, H⟩ := H
   replace H := zO H
   obtain ⟨⟨t378, t381, t382, t383⟩, A35, H⟩ := H
   try dsimp only at H
   by_cases c36 : t383 ≥ 0
   rotate_left
   ·rw [if_neg c36] at H
    have c36b0 := decide_eq_false c36
    clear c36
    simp only [Option.some.injEq, Prod.mk.injEq] at H
    obtain ⟨rfl, rfl, rfl, rfl⟩ := H
    have hnb64 := NB353_354.1
    have hnc64 := NB354_353.1
    have hcz65 := zc_3 (w := wc) BK353.1
    obtain ⟨p368, q368, ad368, e368, hx368_0⟩ := zRd (Kd.at_int HR0.1 a1_1)
    cases e368
    replace hx368_0 := zHx HB.1 hx368_0
    try go_wp2_with (first | ((with_reducible refine zG Try.func105 38 #[.int .i64 (rd l0 a1_1)] ?_); (with_reducible refine (spec_Decode.calls (rd l0 a1_1) t369 t370 t371 t372 t373 t374 _ A30.1).mono ?_); rintro e w66 ⟨rfl, hb⟩; refine ⟨_, rfl, ?_⟩; replace HO_6 := zM (Kd.R_below (zR HO_6.1) hb); replace BK353 := zM (zb BK353.1 hb); replace BK354 := zM (zb BK354.1 hb); replace HB := zM (below_step zB1 hb); clear hb) | ((with_reducible refine zBx 7 59 #[.int .i64 0, .int .i64 0, .int .i64 0, .int .i64 0, .int .i64 0] ?_); intro gb375 hg w67 hbox hb; replace HO_6 := zM (Kd.R_below (zR HO_6.1) hb); have BK375 := zM hbox; have GW375 := zM (zW hg (below_size zB1)); have GE375 := zM (zW hg (below_size zB1)); replace HB := zM (below_step zB1 hb); have NB353_375 := zM ((zn BK353.1 hg : gb353 ≠ gb375)); have NB375_353 := zM ((zm BK353.1 hg : gb375 ≠ gb353)); replace BK353 := zM (zb BK353.1 hb); have NB354_375 := zM ((zn BK354.1 hg : gb354 ≠ gb375)); have NB375_354 := zM ((zm BK354.1 hg : gb375 ≠ gb354)); replace BK354 := zM (zb BK354.1 hb); clear hb hbox hg; have hnb68 := NB375_353.1; have hnc68 := NB353_375.1; have hnb69 := NB375_354.1; have hnc69 := NB354_375.1; have hcz70 := zc_5 (w := w67) BK375.1; have hcz71 := zc_3 (w := w67) BK353.1) | ((with_reducible refine zG Try.func106 44 #[.agg #[.int .i64 t369, .int .i64 t370, .int .i64 t371, .int .i64 t372, .int .i64 t373], .slice A1_0 l1_0.length c1_0] ?_); (with_reducible refine (spec_Target.calls t369 t370 t371 t372 t373 _ _ l1_0 t376 _ ?side1 ?side2 A31.1).mono ?_); (case side1 => exact Kd.C_below HR1_0.1 zB1); (case side2 => exact HC1_0.1); rintro e w72 ⟨rfl, hb⟩; refine ⟨_, rfl, ?_⟩; replace HO_6 := zM (Kd.R_below (by refine zrR ?_; exact (Kd.R_mono (zfR (zfR (zfR (zfR (zfR (Kd.R_types HO_6.1 BK375.1 (by decide))))))) (fun _ h_ => h_.1))) hb); replace BK353 := zM (zf BK353.1 hb); replace BK354 := zM (zf BK354.1 hb); replace BK375 := zM (blk_below (g := gb375) (o := .cells #[.int .i64 t369, .int .i64 t370, .int .i64 t371, .int .i64 t372, .int .i64 t373] 59 (0, 0)) (by exact zp5 (zK BK375.1)) hb); replace HB := zM (below_step zB1 hb); clear hb; have p377 : 0 ≤ (t376 : Int) := zA; have q377 : t376 < (l0.length : Int) := zA; obtain ⟨ad377, e377, hx377_0⟩ := Kd.at_int HR0.1 t376 p377 q377; obtain rfl : ad368 = ad377 := (by injection e377); replace hx377_0 := zHx HB.1 hx377_0; replace p377 := eq_true p377; replace q377 := eq_true q377; have hcz73 := zc_3 (w := w72) BK353.1; have hcz74 := zc_5 (w := w72) BK375.1) | ((with_reducible refine zG Try.func107 55 #[.agg #[.slice A1_0 l1_0.length c1_0, .int .i64 a1_1, .int .i64 a1_2], .agg #[.int .i64 t369, .int .i64 t370, .int .i64 t371, .int .i64 t372, .int .i64 t373], .int .i64 (rd l0 t376)] ?_); (with_reducible refine (spec_Work.calls kj3 _ _ l1_0 a1_1 a1_2 t369 t370 t371 t372 t373 (rd l0 t376) t378 t381 t382 t383 _ ?side1 ?side2 A35.1).mono ?_); (case side1 => exact zC (Kd.C_below HR1_0.1 HB.1)); (case side2 => exact HC1_0.1); rintro e w75 ⟨v379, rfl, ho0, hb⟩; refine ⟨_, rfl, ?_⟩; have HO380 := zM (Kd.R_lower (Kd.R_new' ho0 (Kd.R_lt (zR HO_6.1))) (below_size zB1)); replace HO_6 := zM (Kd.R_elder' (zR HO_6.1) (Kd.R_base ho0) hb); replace BK353 := zM (zb BK353.1 hb); replace BK354 := zM (zb BK354.1 hb); replace BK375 := zM (zb BK375.1 hb); replace HB := zM (below_step zB1 hb); clear hb ho0) | ((with_reducible refine zBx 11 29 #[.slice none 0 0, .int .i64 0, .int .i64 0] ?_); intro gb384 hg w76 hbox hb; replace HO_6 := zM (Kd.R_below (zR HO_6.1) hb); replace HO380 := zM (Kd.R_below (zR HO380.1) hb); have BK384 := zM hbox; have GW384 := zM (zW hg (below_size zB1)); have GE384 := zM (zW hg (below_size zB1)); replace HB := zM (below_step zB1 hb); have NB353_384 := zM ((zn BK353.1 hg : gb353 ≠ gb384)); have NB384_353 := zM ((zm BK353.1 hg : gb384 ≠ gb353)); replace BK353 := zM (zb BK353.1 hb); have NB354_384 := zM ((zn BK354.1 hg : gb354 ≠ gb384)); have NB384_354 := zM ((zm BK354.1 hg : gb384 ≠ gb354)); replace BK354 := zM (zb BK354.1 hb); have NB375_384 := zM ((zn BK375.1 hg : gb375 ≠ gb384)); have NB384_375 := zM ((zm BK375.1 hg : gb384 ≠ gb375)); replace BK375 := zM (zb BK375.1 hb); clear hb hbox hg; obtain ⟨Ao77, co77, eo77⟩ := Kd.R_slice HO380.1; subst eo77; have hnb78 := NB384_353.1; have hnc78 := NB353_384.1; have hnb79 := NB384_354.1; have hnc79 := NB354_384.1; have hnb80 := NB384_375.1; have hnc80 := NB375_384.1; have hcz81 := zc_3 (w := w76) BK384.1))
    generalize hw_ : (((w76.setCell ⟨gb384, 0, none⟩ (.slice Ao77 t378.length co77)).setCell ⟨gb384, 1, none⟩ (.int .i64 t381)).setCell ⟨gb384, 2, none⟩ (.int .i64 t382)) = w82
    have n0_ : Aside0 (Kd.R (Kd.int .i64) 3 w82 w.heap.size (fun k_ => some k_ ≠ (.slice Ao77 t378.length co77 : Value).ownBlock) v359 y358) := ⟨by rw [← hw_]; refine zrR ?_; exact Kd.R_mono (zfR (zfR (zfR (Kd.R_types HO_6.1 BK384.1 (by decide))))) (fun _ hk => hk.1.2)⟩
    have n1_ : Aside0 (Kd.R (Kd.int .i64) 3 w82 w.heap.size (fun k_ => some k_ ≠ (v359 : Value).ownBlock) (.slice Ao77 t378.length co77) t378) := ⟨by rw [← hw_]; refine zrR ?_; exact Kd.R_mono (zfR (zfR (zfR (Kd.R_types HO380.1 BK384.1 (by decide))))) (fun _ hk => hk.1.2)⟩
    have n2_ : Aside0 (w82.heap[gb353]? = some (.cells #[.slice A1_0 l1_0.length c1_0, .int .i64 a1_1, .int .i64 a1_2] 29 (0, 0))) := ⟨by rw [← hw_]; exact zPq⟩
    have n3_ : Aside0 (w82.heap[gb354]? = some (.cells #[.slice none 0 0, .int .i64 0, .int .i64 0] 29 (0, 0))) := ⟨by rw [← hw_]; exact zPq⟩
    have n4_ : Aside0 (w82.heap[gb375]? = some (.cells #[.int .i64 t369, .int .i64 t370, .int .i64 t371, .int .i64 t372, .int .i64 t373] 59 (0, 0))) := ⟨by rw [← hw_]; exact zPq⟩
    have n5_ : Aside0 (w82.heap[gb384]? = some (.cells #[.slice Ao77 t378.length co77, .int .i64 t381, .int .i64 t382] 29 (0, 0))) := ⟨by rw [← hw_]; exact zp3 (zK BK384.1)⟩
    have n6_ : Aside0 (Below w.heap.size w w82) := ⟨by rw [← hw_]; exact zB1⟩
    (try clear HO_6)
    (try clear HO380)
    (try clear BK353)
    (try clear BK354)
    (try clear BK375)
    (try clear BK384)
    (try clear HB)
    clear hw_
    have HO_6 := n0_
    have HO380 := n1_
    have BK353 := n2_
    have BK354 := n3_
    have BK375 := n4_
    have BK384 := n5_
    have HB := n6_
    clear n0_ n1_ n2_ n3_ n4_ n5_ n6_
    replace HO_6 := zM (Kd.R_drew HO_6.1)
    replace HO380 := zM (Kd.R_drew HO380.1)
    replace BK353 := zM (blk_drew BK353.1)
    replace BK354 := zM (blk_drew BK354.1)
    replace BK375 := zM (blk_drew BK375.1)
    replace BK384 := zM (blk_drew BK384.1)
    replace HB := zM (below_drew1 HB.1)
    refine start_ (n := 4) (S := fun w' => w'.cell? ⟨gb384, 0, none⟩ = some (.slice Ao77 t378.length co77) ∧ w'.cell? ⟨gb384, 1, none⟩ = some (.int .i64 t381) ∧ w'.cell? ⟨gb384, 2, none⟩ = some (.int .i64 t382)) (ds := []) #[false, false, false, false] (by kernel_rfl) rfl rfl ⟨(blk_cell BK384.1 0).trans rfl, (blk_cell BK384.1 1).trans rfl, (blk_cell BK384.1 2).trans rfl⟩ (fun hHeld => ?_)
    generalize w82.drew = w83 at HO_6 HO380 BK353 BK354 BK375 BK384 HB hHeld ⊢
    refine zPu 0 ?_
    refine zPu 2 ?_
    refine zTk3 1 hHeld ?_
    refine zOn 3 none fun K hK => ?_
    obtain ⟨hs84, hfs84⟩ := zHs BK354.1 0
    have hns84_0 := NB353_354.1
    have hns84_2 := NB375_354.1
    have hns84_3 := NB384_354.1
    have hms84_0 := NB354_353.1
    have hms84_2 := NB354_375.1
    have hms84_3 := NB354_384.1
    obtain ⟨hs85, hfs85⟩ := zHs BK354.1 1
    have hns85_0 := NB353_354.1
    have hns85_2 := NB375_354.1
    have hns85_3 := NB384_354.1
    have hms85_0 := NB354_353.1
    have hms85_2 := NB354_375.1
    have hms85_3 := NB354_384.1
    obtain ⟨hs86, hfs86⟩ := zHs BK354.1 2
    have hns86_0 := NB353_354.1
    have hns86_2 := NB375_354.1
    have hns86_3 := NB384_354.1
    have hms86_0 := NB354_353.1
    have hms86_2 := NB354_375.1
    have hms86_3 := NB354_384.1
    refine skip_ (w1 := ?_) (by rfl) rfl ?_ ?_
    rotate_left
    ·go_simp
     rfl
    refine hK.out _ _ zCs fun hHeld => ?_
    clear hK K
    refine done_ (by kernel_rfl) ?_
    try go_wp2
    refine bodyPost_ret (results_tc rfl _ _ gb354 29 #[.slice Ao77 t378.length co77, .int .i64 t381, .int .i64 t382] (0, 0) _ rfl (by exact zp3 (zK BK354.1)) Try.underlying29 rfl (by kernel_rfl)) rfl ?_
    exact ⟨_, _, zE, by refine zrR ?_; exact Kd.R_mono (zfR (zfR (zfR (Kd.R_types HO_6.1 BK354.1 (by decide))))) (fun _ hk => hk.1), by refine zrR ?_; exact Kd.R_mono (zfR (zfR (zfR (Kd.R_types HO380.1 BK354.1 (by decide))))) (fun _ hk => hk.1), zB1⟩
   rw [if_pos c36] at H
   have c36b0 := decide_eq_true c36
   clear c36
   replace H := zIt H
   obtain ⟨c37b0, H⟩ := H
   generalize hy385 : ((y358.set (t376 : Int).toNat t383) : List Int) = y385 at H
   have Ny385 := zM hy385.symm
   clear hy385
   simp only [Option.some.injEq, Prod.mk.injEq] at H
   obtain ⟨rfl, rfl, rfl, rfl⟩ := H
   have hnb39 := NB353_354.1
   have hnc39 := NB354_353.1
   have hcz40 := zc_3 (w := wc) BK353.1
   obtain ⟨p368, q368, ad368, e368, hx368_0⟩ := zRd (Kd.at_int HR0.1 a1_1)
   cases e368
   replace hx368_0 := zHx HB.1 hx368_0
   try go_wp2_with (first | ((with_reducible refine zG Try.func105 38 #[.int .i64 (rd l0 a1_1)] ?_); (with_reducible refine (spec_Decode.calls (rd l0 a1_1) t369 t370 t371 t372 t373 t374 _ A30.1).mono ?_); rintro e w41 ⟨rfl, hb⟩; refine ⟨_, rfl, ?_⟩; replace HO_6 := zM (Kd.R_below (zR HO_6.1) hb); replace BK353 := zM (zb BK353.1 hb); replace BK354 := zM (zb BK354.1 hb); replace HB := zM (below_step zB1 hb); clear hb) | ((with_reducible refine zBx 7 59 #[.int .i64 0, .int .i64 0, .int .i64 0, .int .i64 0, .int .i64 0] ?_); intro gb375 hg w42 hbox hb; replace HO_6 := zM (Kd.R_below (zR HO_6.1) hb); have BK375 := zM hbox; have GW375 := zM (zW hg (below_size zB1)); have GE375 := zM (zW hg (below_size zB1)); replace HB := zM (below_step zB1 hb); have NB353_375 := zM ((zn BK353.1 hg : gb353 ≠ gb375)); have NB375_353 := zM ((zm BK353.1 hg : gb375 ≠ gb353)); replace BK353 := zM (zb BK353.1 hb); have NB354_375 := zM ((zn BK354.1 hg : gb354 ≠ gb375)); have NB375_354 := zM ((zm BK354.1 hg : gb375 ≠ gb354)); replace BK354 := zM (zb BK354.1 hb); clear hb hbox hg; have hnb43 := NB375_353.1; have hnc43 := NB353_375.1; have hnb44 := NB375_354.1; have hnc44 := NB354_375.1; have hcz45 := zc_5 (w := w42) BK375.1; have hcz46 := zc_3 (w := w42) BK353.1) | ((with_reducible refine zG Try.func106 44 #[.agg #[.int .i64 t369, .int .i64 t370, .int .i64 t371, .int .i64 t372, .int .i64 t373], .slice A1_0 l1_0.length c1_0] ?_); (with_reducible refine (spec_Target.calls t369 t370 t371 t372 t373 _ _ l1_0 t376 _ ?side1 ?side2 A31.1).mono ?_); (case side1 => exact Kd.C_below HR1_0.1 zB1); (case side2 => exact HC1_0.1); rintro e w47 ⟨rfl, hb⟩; refine ⟨_, rfl, ?_⟩; replace HO_6 := zM (Kd.R_below (by refine zrR ?_; exact (Kd.R_mono (zfR (zfR (zfR (zfR (zfR (Kd.R_types HO_6.1 BK375.1 (by decide))))))) (fun _ h_ => h_.1))) hb); replace BK353 := zM (zf BK353.1 hb); replace BK354 := zM (zf BK354.1 hb); replace BK375 := zM (blk_below (g := gb375) (o := .cells #[.int .i64 t369, .int .i64 t370, .int .i64 t371, .int .i64 t372, .int .i64 t373] 59 (0, 0)) (by exact zp5 (zK BK375.1)) hb); replace HB := zM (below_step zB1 hb); clear hb; have p377 : 0 ≤ (t376 : Int) := zA; have q377 : t376 < (l0.length : Int) := zA; obtain ⟨ad377, e377, hx377_0⟩ := Kd.at_int HR0.1 t376 p377 q377; obtain rfl : ad368 = ad377 := (by injection e377); replace hx377_0 := zHx HB.1 hx377_0; replace p377 := eq_true p377; replace q377 := eq_true q377; have hcz48 := zc_3 (w := w47) BK353.1; have hcz49 := zc_5 (w := w47) BK375.1) | ((with_reducible refine zG Try.func107 55 #[.agg #[.slice A1_0 l1_0.length c1_0, .int .i64 a1_1, .int .i64 a1_2], .agg #[.int .i64 t369, .int .i64 t370, .int .i64 t371, .int .i64 t372, .int .i64 t373], .int .i64 (rd l0 t376)] ?_); (with_reducible refine (spec_Work.calls kj3 _ _ l1_0 a1_1 a1_2 t369 t370 t371 t372 t373 (rd l0 t376) t378 t381 t382 t383 _ ?side1 ?side2 A35.1).mono ?_); (case side1 => exact zC (Kd.C_below HR1_0.1 HB.1)); (case side2 => exact HC1_0.1); rintro e w50 ⟨v379, rfl, ho0, hb⟩; refine ⟨_, rfl, ?_⟩; have HO380 := zM (Kd.R_lower (Kd.R_new' ho0 (Kd.R_lt (zR HO_6.1))) (below_size zB1)); replace HO_6 := zM (Kd.R_elder' (zR HO_6.1) (Kd.R_base ho0) hb); replace BK353 := zM (zb BK353.1 hb); replace BK354 := zM (zb BK354.1 hb); replace BK375 := zM (zb BK375.1 hb); replace HB := zM (below_step zB1 hb); clear hb ho0) | ((with_reducible refine zBx 11 29 #[.slice none 0 0, .int .i64 0, .int .i64 0] ?_); intro gb384 hg w51 hbox hb; replace HO_6 := zM (Kd.R_below (zR HO_6.1) hb); replace HO380 := zM (Kd.R_below (zR HO380.1) hb); have BK384 := zM hbox; have GW384 := zM (zW hg (below_size zB1)); have GE384 := zM (zW hg (below_size zB1)); replace HB := zM (below_step zB1 hb); have NB353_384 := zM ((zn BK353.1 hg : gb353 ≠ gb384)); have NB384_353 := zM ((zm BK353.1 hg : gb384 ≠ gb353)); replace BK353 := zM (zb BK353.1 hb); have NB354_384 := zM ((zn BK354.1 hg : gb354 ≠ gb384)); have NB384_354 := zM ((zm BK354.1 hg : gb384 ≠ gb354)); replace BK354 := zM (zb BK354.1 hb); have NB375_384 := zM ((zn BK375.1 hg : gb375 ≠ gb384)); have NB384_375 := zM ((zm BK375.1 hg : gb384 ≠ gb375)); replace BK375 := zM (zb BK375.1 hb); clear hb hbox hg; obtain ⟨Ao52, co52, eo52⟩ := Kd.R_slice HO380.1; subst eo52; have hnb53 := NB384_353.1; have hnc53 := NB353_384.1; have hnb54 := NB384_354.1; have hnc54 := NB354_384.1; have hnb55 := NB384_375.1; have hnc55 := NB375_384.1; have hcz56 := zc_3 (w := w51) BK384.1) | ((with_reducible refine gate_store (t := 29) (p := 11) rfl ?_); refine store_event (t := 29) (p := 11) (v := ?vo_w57) (w1 := (((w51.setCell ⟨gb384, 0, none⟩ (.slice Ao52 t378.length co52)).setCell ⟨gb384, 1, none⟩ (.int .i64 t381)).setCell ⟨gb384, 2, none⟩ (.int .i64 t382))) ?hg ?ho ?hn ?hr ?_; (case ho => rfl); (case hg => rfl); (case hn => rfl); (case hr => exact zHH); intro w57 hw; have n0_ : Aside0 (Kd.R (Kd.int .i64) 3 w57 w.heap.size (fun k_ => some k_ ≠ (.slice Ao52 t378.length co52 : Value).ownBlock) v359 y358) := ⟨(by rw [hw]; exact (by refine zrR ?_; exact Kd.R_mono (zfR (zfR (zfR (Kd.R_types HO_6.1 BK384.1 (by decide))))) (fun _ hk => hk.1.2)))⟩; have n1_ : Aside0 (Kd.R (Kd.int .i64) 3 w57 w.heap.size (fun k_ => some k_ ≠ (v359 : Value).ownBlock) (.slice Ao52 t378.length co52) t378) := ⟨(by rw [hw]; exact (by refine zrR ?_; exact Kd.R_mono (zfR (zfR (zfR (Kd.R_types HO380.1 BK384.1 (by decide))))) (fun _ hk => hk.1.2)))⟩; have n2_ : Aside0 (w57.heap[gb353]? = some (.cells #[.slice A1_0 l1_0.length c1_0, .int .i64 a1_1, .int .i64 a1_2] 29 (0, 0))) := ⟨(by rw [hw]; exact zPq)⟩; have n3_ : Aside0 (w57.heap[gb354]? = some (.cells #[.slice none 0 0, .int .i64 0, .int .i64 0] 29 (0, 0))) := ⟨(by rw [hw]; exact zPq)⟩; have n4_ : Aside0 (w57.heap[gb375]? = some (.cells #[.int .i64 t369, .int .i64 t370, .int .i64 t371, .int .i64 t372, .int .i64 t373] 59 (0, 0))) := ⟨(by rw [hw]; exact zPq)⟩; have n5_ : Aside0 (w57.heap[gb384]? = some (.cells #[.slice Ao52 t378.length co52, .int .i64 t381, .int .i64 t382] 29 (0, 0))) := ⟨(by rw [hw]; exact (by exact zp3 (zK BK384.1)))⟩; have n6_ : Aside0 (Below w.heap.size w w57) := ⟨(by rw [hw]; exact zB1)⟩; clear hw; clear HO_6; clear HO380; clear BK353; clear BK354; clear BK375; clear BK384; clear HB; have HO_6 := n0_; have HO380 := n1_; have BK353 := n2_; have BK354 := n3_; have BK375 := n4_; have BK384 := n5_; have HB := n6_; clear n0_ n1_ n2_ n3_ n4_ n5_ n6_; have p38 : 0 ≤ (t376 : Int) := zA; have q38 : (t376 : Int) < ((y358.length : Int) : Int) := zA; obtain ⟨go38, co38, eo38, gb38, gl38, cl38, HG38⟩ := Kd.R_form HO_6.1 (by omega); (first | cases eo38 | (injection eo38 with ea_ en_ ec_; (first | subst ea_ | (injection ea_ with ea_; subst ea_)); subst ec_; clear en_)); have GB38 := zM gb38; have GG38 := zM HG38; clear gb38 gl38 HG38; obtain ⟨hx38_0, hf38_0⟩ := Kd.R_celln 0 HO_6.1 (t376 : Int) p38 q38; replace p38 := eq_true p38; replace q38 := eq_true q38; obtain ⟨hy58_, hz58_⟩ := Kd.R_celln 0 HO_6.1 (t376 : Int) zA zA; have HP58 := Kd.R_putg HO_6.1 (t376 : Int) t383) | ((with_reducible refine gate_store (t := 3) (p := 63) rfl ?_); refine store_event (t := 3) (p := 63) (v := ?vo_w59) (w1 := (w57.setCell ⟨go38, (t376 : Int).toNat, none⟩ (.int .i64 t383))) ?hg ?ho ?hn ?hr ?_; (case ho => rfl); (case hg => rfl); (case hn => rfl); (case hr => exact zHH); intro w59 hw; have hg : w57.grownBy w59 (some go38) := (by rw [hw]; exact HP58.2); have hp_ : Kd.R (Kd.int .i64) 3 w59 w.heap.size (fun k_ => some k_ ≠ (.slice Ao52 t378.length co52 : Value).ownBlock) (.slice (some ⟨go38, 0, none⟩) y358.length co38) y385 := (by rw [hw, Ny385.1]; exact HP58.1); clear HP58; replace BK353 := zM (zg BK353.1 hg (Kd.R_ne HO_6.1 BK353.1 (by decide))); replace BK354 := zM (zg BK354.1 hg (Kd.R_ne HO_6.1 BK354.1 (by decide))); replace BK375 := zM (zg BK375.1 hg (Kd.R_ne HO_6.1 BK375.1 (by decide))); replace HO380 := zM (Kd.R_after (v := (.slice (some ⟨go38, 0, none⟩) y358.length co38)) (v1 := (.slice (some ⟨go38, 0, none⟩) y358.length co38)) (ok := (fun _ => True)) (by refine zrR ?_; exact Kd.R_mono HO380.1 (fun _ hk => ⟨trivial, hk⟩)) hg (.inl rfl)); replace BK384 := zM (zg BK384.1 hg (Kd.R_ne HO_6.1 BK384.1 (by decide))); replace HO_6 := zM hp_; replace HB := zM ((by rw [hw]; exact below_set (HB.1) GB38.1 : Below w.heap.size w w59)); clear hg hw hp_))
   replace HO_6 := zM (Kd.R_drew HO_6.1)
   replace HO380 := zM (Kd.R_drew HO380.1)
   replace BK353 := zM (blk_drew BK353.1)
   replace BK354 := zM (blk_drew BK354.1)
   replace BK375 := zM (blk_drew BK375.1)
   replace BK384 := zM (blk_drew BK384.1)
   replace HB := zM (below_drew1 HB.1)
   refine start_ (n := 4) (S := fun w' => w'.cell? ⟨gb384, 0, none⟩ = some (.slice Ao52 t378.length co52) ∧ w'.cell? ⟨gb384, 1, none⟩ = some (.int .i64 t381) ∧ w'.cell? ⟨gb384, 2, none⟩ = some (.int .i64 t382)) (ds := []) #[false, false, false, false] (by kernel_rfl) rfl rfl ⟨(blk_cell BK384.1 0).trans rfl, (blk_cell BK384.1 1).trans rfl, (blk_cell BK384.1 2).trans rfl⟩ (fun hHeld => ?_)
   generalize w59.drew = w60 at HO_6 HO380 BK353 BK354 BK375 BK384 HB hHeld ⊢
   refine zPu 0 ?_
   refine zPu 2 ?_
   refine zTk3 1 hHeld ?_
   refine zOn 3 none fun K hK => ?_
   obtain ⟨hs61, hfs61⟩ := zHs BK354.1 0
   have hns61_0 := NB353_354.1
   have hns61_2 := NB375_354.1
   have hns61_3 := NB384_354.1
   have hms61_0 := NB354_353.1
   have hms61_2 := NB354_375.1
   have hms61_3 := NB354_384.1
   obtain ⟨hs62, hfs62⟩ := zHs BK354.1 1
   have hns62_0 := NB353_354.1
   have hns62_2 := NB375_354.1
   have hns62_3 := NB384_354.1
   have hms62_0 := NB354_353.1
   have hms62_2 := NB354_375.1
   have hms62_3 := NB354_384.1
   obtain ⟨hs63, hfs63⟩ := zHs BK354.1 2
   have hns63_0 := NB353_354.1
   have hns63_2 := NB375_354.1
   have hns63_3 := NB384_354.1
   have hms63_0 := NB354_353.1
   have hms63_2 := NB354_375.1
   have hms63_3 := NB354_384.1
   refine skip_ (w1 := ?_) (by rfl) rfl ?_ ?_
   rotate_left
   ·go_simp
    rfl
   refine hK.out _ _ zCs fun hHeld => ?_
   clear hK K
   refine done_ (by kernel_rfl) ?_
   try go_wp2
   refine bodyPost_ret (results_tc rfl _ _ gb354 29 #[.slice Ao52 t378.length co52, .int .i64 t381, .int .i64 t382] (0, 0) _ rfl (by exact zp3 (zK BK354.1)) Try.underlying29 rfl (by kernel_rfl)) rfl ?_
   exact ⟨_, _, zE, by refine zrR ?_; exact Kd.R_mono (zfR (zfR (zfR (Kd.R_types HO_6.1 BK354.1 (by decide))))) (fun _ hk => hk.1), by refine zrR ?_; exact Kd.R_mono (zfR (zfR (zfR (Kd.R_types HO380.1 BK354.1 (by decide))))) (fun _ hk => hk.1.2), zB1⟩

end Go.Proofs.Ytnjdepmlpdjghaa.PFnAllCounts
