-- made by wip/tools/myprint.py out of the seat's translation
import Derived.Test.YtpcgecacaemalaaPFnExactRunTox0
import Derived.Test.YtpcgecacaemalaaPFnExactRunTox9
import Derived.Test.YtpcgecacaemalaaPFnExactRunTox10
namespace Go.Proofs.Ytpcgecacaemalaa.PFnExactRunTo
open Go.RowKit Go.Proofs.YtpcgecacaemalaaW.PrintWords Go.Proofs.YtpcgecacaemalaaW.PrintLast Go.Proofs.YtpcgecacaemalaaW.PrintMore
attribute [local go_sem] max2_int min2_int max_two min_two max_three min_three max_four min_four   -- for this text's walks alone
set_option linter.unusedVariables false
set_option linter.unusedSimpArgs false
set_option maxHeartbeats 8000000
set_option maxRecDepth 100000
abbrev zq13_0 : Array Bool := #[false, false, false, false, false, false, false, false, false, false]
abbrev zq13_7 : Array Bool := #[true, true, true, true, true, true, true, true, true, false]
abbrev zq13_8 : Array Bool := #[true, true, true, true, true, true, true, false, false, false]
abbrev zq13_9 : Array Bool := #[true, true, true, true, true, true, false, false, true, false]
abbrev zq13_13 : Array Bool := #[false, false, false, false, false, false, false, false, false, false, false, false, false]
abbrev zq13_26 : Array Bool := #[true, true, true, true, true, true, true, true, true, true, true, true, true]

/-! ### spec_EventOf: function 69 -/
def spec_EventOf.j0 : Nat → List Int → Int → Bool → List Int → Int → Int → Option (Int × Int × Int × Int × Int × Bool)
 | 0, _, _, _, _, _, _ => none
 | k + 1, x0, x2, x23, x412000, x412001, x412002 => if x23 = true then (some (0, 0, 0, 0, 0, false)) else (if 0 ≤ x412001 then (if x412001 < (x0.length : Int) then ((spec_Decode.f (rd x0 x412001)).bind fun bt416 => ((spec_Target.f bt416.1 bt416.2.1 bt416.2.2.1 bt416.2.2.2.1 bt416.2.2.2.2.1 x412000).bind fun t423 => (if t423 < 0 then (some (x2, x412001, t423, (-1), (-1), true)) else (if 0 ≤ t423 then (if t423 < (x0.length : Int) then ((spec_Work.f k x412000 x412001 x412002 bt416.1 bt416.2.1 bt416.2.2.1 bt416.2.2.2.1 bt416.2.2.2.2.1 (rd x0 t423)).bind fun bt426 => (if bt416.1 = 5 then (some (x2, x412001, t423, (-1), bt426.2.2.2, true)) else (some (x2, x412001, t423, rd x0 t423, bt426.2.2.2, true)))) else (none)) else (none))))) else (none)) else (none))
def spec_EventOf.f (k : Nat) (l0 : List Int) (l1_0 : List Int) (a1_1 : Int) (a1_2 : Int) (a2 : Int) : Option (Int × Int × Int × Int × Int × Bool) := (spec_l1Words.f k l0 24).bind fun t413 => (if t413 = true then ((spec_HartOk.f k l1_0 a1_1 a1_2).bind fun t414 => (if t414 = true then (spec_EventOf.j0 k l0 a2 (a1_2 != 0) l1_0 a1_1 a1_2) else (spec_EventOf.j0 k l0 a2 true l1_0 a1_1 a1_2))) else (spec_EventOf.j0 k l0 a2 true l1_0 a1_1 a1_2))
theorem spec_EventOf.mono_l : ∀ k, (∀ y0 y1 y2 y3 y4 y5, LeO (spec_EventOf.j0 k y0 y1 y2 y3 y4 y5) (spec_EventOf.j0 (k + 1) y0 y1 y2 y3 y4 y5))
 | 0 => fun _ _ _ _ _ _ r h => by simp [spec_EventOf.j0] at h
 | k + 1 => by
  have ih0 := spec_EventOf.mono_l k
  ·intros
   unfold spec_EventOf.j0
   have mo0 := @spec_HartOk.mono
   have mo1 := @spec_Work.mono
   have mo2 := @spec_l1Words.mono
   exact zL
theorem spec_EventOf.mono : ∀ a0 a1 a2 a3 a4 k, LeO (spec_EventOf.f k a0 a1 a2 a3 a4) (spec_EventOf.f (k + 1) a0 a1 a2 a3 a4) := by
 intro a0 a1 a2 a3 a4 k
 have ih0 := spec_EventOf.mono_l k
 unfold spec_EventOf.f
 have mo0 := @spec_HartOk.mono
 have mo1 := @spec_Work.mono
 have mo2 := @spec_l1Words.mono
 exact zL
def spec_EventOf.T4 : Bool × List (List Nat × List Nat) := (true, [([], []), ([], []), ([1], [1]), ([], []), ([], []), ([4], [4]), ([3, 5], [3, 5]), ([0, 2, 6], [0, 2, 6]), ([], []), ([8, 7, 6, 0, 1, 2, 3, 4, 5, 6, 7, 8], [7, 8])])
def spec_EventOf.B4 : List Nat := [0, 0, 2, 0, 0, 16, 56, 127, 0, 511]
theorem spec_EventOf.tab4 : rtab .any (opsOf Try.f69 4) = spec_EventOf.T4 := by kernel_rfl
theorem spec_EventOf.bits4 : waitsOk spec_EventOf.T4.2 spec_EventOf.B4 = true := by kernel_rfl
def spec_EventOf.T7 : Bool × List (List Nat × List Nat) := (true, [([], []), ([], []), ([], []), ([], []), ([3], [3]), ([2, 4], [2, 4]), ([5], [5]), ([0, 1, 6], [0, 1, 6]), ([7], [7]), ([8], [8]), ([8], [8]), ([0, 1, 2, 3, 4, 5, 6, 7, 8, 9, 10], []), ([11, 10, 7, 0, 1, 2, 3, 4, 5, 6, 7, 8, 9, 10], [10, 11])])
def spec_EventOf.B7 : List Nat := [0, 0, 0, 0, 8, 28, 60, 127, 255, 511, 511, 2047, 4095]
theorem spec_EventOf.tab7 : rtab .any (opsOf Try.f69 7) = spec_EventOf.T7 := by kernel_rfl
theorem spec_EventOf.bits7 : waitsOk spec_EventOf.T7.2 spec_EventOf.B7 = true := by kernel_rfl
theorem spec_EventOf.calls (k : Nat) (A0 : Option Addr) (c0 : Nat) (l0 : List Int) (A1_0 : Option Addr) (c1_0 : Nat) (l1_0 : List Int) (a1_1 : Int) (a1_2 : Int) (a2 : Int) (r1 : Int) (r2 : Int) (r3 : Int) (r4 : Int) (r5 : Int) (r6 : Bool) (w : World) (hr0 : Kd.C (Kd.int .i64) w A0 l0.length l0) (hc0 : l0.length ≤ c0) (hr1_0 : Kd.C (Kd.int .i64) w A1_0 l1_0.length l1_0) (hc1_0 : l1_0.length ≤ c1_0) (h : spec_EventOf.f k l0 l1_0 a1_1 a1_2 a2 = some (r1, r2, r3, r4, r5, r6)) :
  Calls Try.prog 69 #[.slice A0 l0.length c0, .agg #[.slice A1_0 l1_0.length c1_0, .int .i64 a1_1, .int .i64 a1_2], .int .i64 a2] w fun e w' => e = .returned (.tuple #[.agg #[.int .i64 r1, .int .i64 r2, .int .i64 r3, .int .i64 r4, .int .i64 r5], .bool r6]) ∧ Below w.heap.size w w' := by
 have hu53 := Try.underlying53
 have hu57 := Try.underlying57
 have hu109 := Try.underlying109
 have HR0 := zM hr0
 have HC0 := zM hc0
 clear hr0 hc0
 have HR1_0 := zM hr1_0
 have HC1_0 := zM hc1_0
 clear hr1_0 hc1_0
 have HB := zM (Below.refl w.heap.size w)
 unfold spec_EventOf.f at h
 have H := h
 clear h
 have HC4 := zM H
 clear H
 go_enter Try.func69, Try.ntmps69
 go_upto_region 1 with (first | ((with_reducible refine zBx 4 53 #[.slice A1_0 l1_0.length c1_0, .int .i64 a1_1, .int .i64 a1_2] ?_); intro gb411 hg w5 hbox hb; have BK411 := zM hbox; have GW411 := zM (zW hg (below_size zB1)); have GE411 := zM (zW hg (below_size zB1)); replace HB := zM (below_step zB1 hb); clear hb hbox hg) | ((with_reducible refine zBx 6 57 #[.int .i64 0, .int .i64 0, .int .i64 0, .int .i64 0, .int .i64 0] ?_); intro gb412 hg w6 hbox hb; have BK412 := zM hbox; have GW412 := zM (zW hg (below_size zB1)); have GE412 := zM (zW hg (below_size zB1)); replace HB := zM (below_step zB1 hb); have NB411_412 := zM ((zn BK411.1 hg : gb411 ≠ gb412)); have NB412_411 := zM ((zm BK411.1 hg : gb412 ≠ gb411)); replace BK411 := zM (zb BK411.1 hb); clear hb hbox hg))
 (try simp only [Act.put, List.setIfInBounds_toArray, List.set_cons_zero, List.set_cons_succ])
 go_cut [23] (fun v23 wc => ∃ (kq : Nat) (x23_3 : Bool), v23 = .bool x23_3 ∧ Aside0 (spec_EventOf.j0 kq l0 a2 x23_3 l1_0 a1_1 a1_2 = some (r1, r2, r3, r4, r5, r6)) ∧ Aside0 (kq ≤ k) ∧ Aside0 (wc.heap[gb411]? = some (.cells #[(.slice A1_0 l1_0.length c1_0), .int .i64 a1_1, .int .i64 a1_2] 53 (0, 0))) ∧ Aside0 (wc.heap[gb412]? = some (.cells #[.int .i64 0, .int .i64 0, .int .i64 0, .int .i64 0, .int .i64 0] 57 (0, 0))) ∧ Aside0 (Below w.heap.size w wc))
 case first =>
  have H := HC4.1
  clear HC4
  replace H := zO H
  obtain ⟨t413, A7, H⟩ := H
  by_cases c8 : t413 = true
  rotate_left
  ·replace c8 := Bool.eq_false_iff.mpr c8
   subst c8
   rw [if_neg zF] at H
   have H' := zM H
   clear H
   go_wp2_with (first | ((with_reducible refine zG Try.func96 12 #[.slice A0 l0.length c0, .int .i64 24] ?_); (with_reducible refine (spec_l1Words.calls k _ _ l0 24 false _ ?side1 ?side2 A7.1).mono ?_); (case side1 => exact zC (Kd.C_below HR0.1 HB.1)); (case side2 => exact HC0.1); rintro e w' ⟨rfl, ⟨nd, rfl⟩⟩; refine ⟨_, rfl, ?_⟩))
   go_meet
   case rel => exact ⟨_, (true), zJJ, H', ⟨by first | omega | exact Nat.le_refl _⟩, ⟨zK BK411.1⟩, ⟨zK BK412.1⟩, ⟨zB1⟩⟩
  subst c8
  rw [if_pos rfl] at H
  replace H := zO H
  obtain ⟨t414, A9, H⟩ := H
  by_cases c10 : t414 = true
  rotate_left
  ·replace c10 := Bool.eq_false_iff.mpr c10
   subst c10
   rw [if_neg zF] at H
   have H' := zM H
   clear H
   go_wp2_with (first | ((with_reducible refine zG Try.func96 12 #[.slice A0 l0.length c0, .int .i64 24] ?_); (with_reducible refine (spec_l1Words.calls k _ _ l0 24 true _ ?side1 ?side2 A7.1).mono ?_); (case side1 => exact zC (Kd.C_below HR0.1 HB.1)); (case side2 => exact HC0.1); rintro e w' ⟨rfl, ⟨nd, rfl⟩⟩; refine ⟨_, rfl, ?_⟩; have hnb15 := NB411_412.1; have hnc15 := NB412_411.1; have hcz16 := zc_3 (w := w6) BK411.1) | (go_at_call 94; (with_reducible refine (spec_HartOk.calls k _ _ l1_0 a1_1 a1_2 false _ ?side1 ?side2 A9.1).mono ?_); (case side1 => repeat (first | exact (Kd.C_below HR1_0.1 zB1) | (with_reducible refine Kd.C_alloc ?_ _) | (with_reducible refine Kd.C_drewN ?_ _) | (with_reducible refine Kd.C_drew ?_))); (case side2 => exact HC1_0.1); rintro e w17 ⟨rfl, hb⟩; replace BK411 := zM (zb BK411.1 hb); replace BK412 := zM (zb BK412.1 hb); replace HB := zM (below_step zB1 hb); clear hb))
   go_meet
   case rel => exact ⟨_, (true), zJJ, H', ⟨by first | omega | exact Nat.le_refl _⟩, ⟨zK BK411.1⟩, ⟨zK BK412.1⟩, ⟨zB1⟩⟩
  subst c10
  rw [if_pos rfl] at H
  have H' := zM H
  clear H
  go_wp2_with (first | ((with_reducible refine zG Try.func96 12 #[.slice A0 l0.length c0, .int .i64 24] ?_); (with_reducible refine (spec_l1Words.calls k _ _ l0 24 true _ ?side1 ?side2 A7.1).mono ?_); (case side1 => exact zC (Kd.C_below HR0.1 HB.1)); (case side2 => exact HC0.1); rintro e w' ⟨rfl, ⟨nd, rfl⟩⟩; refine ⟨_, rfl, ?_⟩; have hnb11 := NB411_412.1; have hnc11 := NB412_411.1; have hcz12 := zc_3 (w := w6) BK411.1) | (go_at_call 94; (with_reducible refine (spec_HartOk.calls k _ _ l1_0 a1_1 a1_2 true _ ?side1 ?side2 A9.1).mono ?_); (case side1 => repeat (first | exact (Kd.C_below HR1_0.1 zB1) | (with_reducible refine Kd.C_alloc ?_ _) | (with_reducible refine Kd.C_drewN ?_ _) | (with_reducible refine Kd.C_drew ?_))); (case side2 => exact HC1_0.1); rintro e w13 ⟨rfl, hb⟩; replace BK411 := zM (zb BK411.1 hb); replace BK412 := zM (zb BK412.1 hb); replace HB := zM (below_step zB1 hb); clear hb; have hcz14 := zc_3 (w := w13) BK411.1))
  go_meet
  case rel => exact ⟨_, ((a1_2 != 0)), zJJ, H', ⟨by first | omega | exact Nat.le_refl _⟩, ⟨zK BK411.1⟩, ⟨zK BK412.1⟩, ⟨zB1⟩⟩
 case rest =>
  clear HC4
  obtain ⟨kq, x23_3, rfl, HA, HJ3, BK411, BK412, HB⟩ := hcut
  cases kq with
  | zero => exact absurd HA.1 (by simp [spec_EventOf.j0])
  | succ kj3 =>
   have H := HA.1
   clear HA
   simp only [spec_EventOf.j0] at H
   by_cases c18 : x23_3 = true
   ·subst c18
    rw [if_pos rfl] at H
    simp only [Option.some.injEq, Prod.mk.injEq] at H
    obtain ⟨rfl, rfl, rfl, rfl, rfl, rfl⟩ := H
    have hnb19 := NB412_411.1
    have hnc19 := NB411_412.1
    have hcz20 := zc_5 (w := wc) BK412.1
    go_wp2
    refine bodyPost_ret (results_ct rfl _ _ gb412 57 #[.int .i64 0, .int .i64 0, .int .i64 0, .int .i64 0, .int .i64 0] (0, 0) _ rfl (by exact zp5 (zK BK412.1)) Try.underlying57 rfl (by kernel_rfl)) rfl ?_
    exact ⟨zE, zB1⟩
   replace c18 := Bool.eq_false_iff.mpr c18
   subst c18
   rw [if_neg zF] at H
   replace H := zIt H
   obtain ⟨c21b0, H⟩ := H
   replace H := zIt H
   obtain ⟨c22b0, H⟩ := H
   replace H := zO H
   obtain ⟨⟨t416, t417, t418, t419, t420, t421⟩, A23, H⟩ := H
   try dsimp only at H
   replace H := zO H
   obtain ⟨t423, A24, H⟩ := H
   by_cases c25 : t423 < 0
   ·rw [if_pos c25] at H
    have c25b0 := decide_eq_true c25
    clear c25
    simp only [Option.some.injEq, Prod.mk.injEq] at H
    obtain ⟨rfl, rfl, rfl, rfl, rfl, rfl⟩ := H
    have hnb26 := NB411_412.1
    have hnc26 := NB412_411.1
    have hcz27 := zc_3 (w := wc) BK411.1
    obtain ⟨p415, q415, ad415, e415, hx415_0⟩ := zRd (Kd.at_int HR0.1 a1_1)
    cases e415
    replace hx415_0 := zHx HB.1 hx415_0
    try go_wp2_with (first | ((with_reducible refine zG Try.func106 31 #[.int .i64 (rd l0 a1_1)] ?_); (with_reducible refine (spec_Decode.calls (rd l0 a1_1) t416 t417 t418 t419 t420 t421 _ A23.1).mono ?_); rintro e w28 ⟨rfl, hb⟩; refine ⟨_, rfl, ?_⟩; replace BK411 := zM (zb BK411.1 hb); replace BK412 := zM (zb BK412.1 hb); replace HB := zM (below_step zB1 hb); clear hb) | ((with_reducible refine zBx 8 109 #[.int .i64 0, .int .i64 0, .int .i64 0, .int .i64 0, .int .i64 0] ?_); intro gb422 hg w29 hbox hb; have BK422 := zM hbox; have GW422 := zM (zW hg (below_size zB1)); have GE422 := zM (zW hg (below_size zB1)); replace HB := zM (below_step zB1 hb); have NB411_422 := zM ((zn BK411.1 hg : gb411 ≠ gb422)); have NB422_411 := zM ((zm BK411.1 hg : gb422 ≠ gb411)); replace BK411 := zM (zb BK411.1 hb); have NB412_422 := zM ((zn BK412.1 hg : gb412 ≠ gb422)); have NB422_412 := zM ((zm BK412.1 hg : gb422 ≠ gb412)); replace BK412 := zM (zb BK412.1 hb); clear hb hbox hg; have hnb30 := NB422_411.1; have hnc30 := NB411_422.1; have hnb31 := NB422_412.1; have hnc31 := NB412_422.1; have hcz32 := zc_5 (w := w29) BK422.1))
    generalize hw_ : (((((w29.setCell ⟨gb422, 0, none⟩ (.int .i64 t416)).setCell ⟨gb422, 1, none⟩ (.int .i64 t417)).setCell ⟨gb422, 2, none⟩ (.int .i64 t418)).setCell ⟨gb422, 3, none⟩ (.int .i64 t419)).setCell ⟨gb422, 4, none⟩ (.int .i64 t420)) = w33
    have n0_ : Aside0 (w33.heap[gb411]? = some (.cells #[.slice A1_0 l1_0.length c1_0, .int .i64 a1_1, .int .i64 a1_2] 53 (0, 0))) := ⟨by rw [← hw_]; exact zPq⟩
    have n1_ : Aside0 (w33.heap[gb412]? = some (.cells #[.int .i64 0, .int .i64 0, .int .i64 0, .int .i64 0, .int .i64 0] 57 (0, 0))) := ⟨by rw [← hw_]; exact zPq⟩
    have n2_ : Aside0 (w33.heap[gb422]? = some (.cells #[.int .i64 t416, .int .i64 t417, .int .i64 t418, .int .i64 t419, .int .i64 t420] 109 (0, 0))) := ⟨by rw [← hw_]; exact zp5 (zK BK422.1)⟩
    have n3_ : Aside0 (Below w.heap.size w w33) := ⟨by rw [← hw_]; exact zB1⟩
    (try clear BK411)
    (try clear BK412)
    (try clear BK422)
    (try clear HB)
    clear hw_
    have BK411 := n0_
    have BK412 := n1_
    have BK422 := n2_
    have HB := n3_
    clear n0_ n1_ n2_ n3_
    replace BK411 := zM (blk_drew BK411.1)
    replace BK412 := zM (blk_drew BK412.1)
    replace BK422 := zM (blk_drew BK422.1)
    replace HB := zM (below_drew1 HB.1)
    refine start_ (n := 10) (S := fun w' => w'.cell? ⟨gb411, 0, none⟩ = some (.slice A1_0 l1_0.length c1_0) ∧ w'.cell? ⟨gb411, 1, none⟩ = some (.int .i64 a1_1) ∧ w'.cell? ⟨gb411, 2, none⟩ = some (.int .i64 a1_2) ∧ w'.cell? ⟨gb422, 0, none⟩ = some (.int .i64 t416) ∧ w'.cell? ⟨gb422, 1, none⟩ = some (.int .i64 t417) ∧ w'.cell? ⟨gb422, 2, none⟩ = some (.int .i64 t418) ∧ w'.cell? ⟨gb422, 3, none⟩ = some (.int .i64 t419) ∧ w'.cell? ⟨gb422, 4, none⟩ = some (.int .i64 t420)) (ds := []) zq13_0 (by kernel_rfl) rfl rfl ⟨(blk_cell BK411.1 0).trans rfl, (blk_cell BK411.1 1).trans rfl, (blk_cell BK411.1 2).trans rfl, (blk_cell BK422.1 0).trans rfl, (blk_cell BK422.1 1).trans rfl, (blk_cell BK422.1 2).trans rfl, (blk_cell BK422.1 3).trans rfl, (blk_cell BK422.1 4).trans rfl⟩ (fun hHeld => ?_); refine with_tabW spec_EventOf.tab4 spec_EventOf.bits4 (fun HT_ HW_ => ?_)
    generalize w33.drew = w34 at BK411 BK412 BK422 HB hHeld ⊢
    refine zPu 0 ?_
    refine zPu 1 ?_
    refine zPu 4 ?_
    refine zTk8 2 hHeld ?_
    refine zTk8 3 hHeld ?_
    refine zTk8 5 hHeld ?_
    refine join_ (σ := Nat) 1 zq13_7 (fun s_ => [(40, .int .i64 t423), (10, .pointer (some ⟨s_, 0, none⟩)), (41, .agg #[.int .i64 a2, .int .i64 a1_1, .int .i64 t423, .int .i64 (-1), .int .i64 (-1)])]) (fun s_ w' => (w'.cell? ⟨gb411, 0, none⟩ = some (.slice A1_0 l1_0.length c1_0) ∧ w'.cell? ⟨gb411, 1, none⟩ = some (.int .i64 a1_1) ∧ w'.cell? ⟨gb411, 2, none⟩ = some (.int .i64 a1_2) ∧ w'.cell? ⟨gb422, 0, none⟩ = some (.int .i64 t416) ∧ w'.cell? ⟨gb422, 1, none⟩ = some (.int .i64 t417) ∧ w'.cell? ⟨gb422, 2, none⟩ = some (.int .i64 t418) ∧ w'.cell? ⟨gb422, 3, none⟩ = some (.int .i64 t419) ∧ w'.cell? ⟨gb422, 4, none⟩ = some (.int .i64 t420)) ∧ (w'.heap[gb411]? = some (.cells #[.slice A1_0 l1_0.length c1_0, .int .i64 a1_1, .int .i64 a1_2] 53 (0, 0))) ∧ (w'.heap[gb412]? = some (.cells #[.int .i64 0, .int .i64 0, .int .i64 0, .int .i64 0, .int .i64 0] 57 (0, 0))) ∧ (w'.heap[gb422]? = some (.cells #[.int .i64 t416, .int .i64 t417, .int .i64 t418, .int .i64 t419, .int .i64 t420] 109 (0, 0))) ∧ (w'.heap[s_]? = some (.cells #[.int .i64 0, .int .i64 0, .int .i64 0, .int .i64 0, .int .i64 0] 57 (0, 0))) ∧ (w.heap.size ≤ s_) ∧ (w.heap.size ≤ s_) ∧ (gb411 ≠ s_) ∧ (s_ ≠ gb411) ∧ (gb412 ≠ s_) ∧ (s_ ≠ gb412) ∧ (gb422 ≠ s_) ∧ (s_ ≠ gb422) ∧ (Below w.heap.size w w')) ?_ ?_
    rotate_left
    ·intro hCont
     refine two_ (i := 6) (j := 8) (Ni := some 40) (Nj := some 10) zq13_8 zq13_9 rfl rfl rfl rfl (two_of HT_.1 (by kernel_rfl)) (by decide) (by decide) (fun K hK => ?_) (fun K hK => ?_)
     ·refine zGs Try.func107 #[.agg #[.int .i64 t416, .int .i64 t417, .int .i64 t418, .int .i64 t419, .int .i64 t420], .slice A1_0 l1_0.length c1_0] ?_
      with_reducible refine (spec_Target.calls t416 t417 t418 t419 t420 _ _ l1_0 t423 _ ?side1 ?side2 A24.1).mono ?_
      (case side1 => exact zC (Kd.C_below HR1_0.1 HB.1))
      (case side2 => exact HC1_0.1)
      rintro e w35 ⟨rfl, hb⟩
      refine ⟨_, rfl, ?_⟩
      replace BK411 := zM (zb BK411.1 hb)
      replace BK412 := zM (zb BK412.1 hb)
      replace BK422 := zM (zb BK422.1 hb)
      replace HB := zM (below_step zB1 hb)
      refine hK.out _ _ zCs fun hHeld => ?_
      clear hK K
      refine zNo ?_
      refine zPu 7 ?_
      refine zOn 8 (some 10) fun K hK => ?_
      refine zBs 10 57 #[.int .i64 0, .int .i64 0, .int .i64 0, .int .i64 0, .int .i64 0] ?_
      intro gb424 hg w36 hbox hb
      replace BK424 := zM hbox
      replace GW424 := zM (zW hg (below_size zB1))
      replace GE424 := zM (zW hg (below_size zB1))
      replace HB := zM (below_step zB1 hb)
      replace NB411_424 := zM ((zn BK411.1 hg : gb411 ≠ gb424))
      replace NB424_411 := zM ((zm BK411.1 hg : gb424 ≠ gb411))
      replace BK411 := zM (zb BK411.1 hb)
      replace NB412_424 := zM ((zn BK412.1 hg : gb412 ≠ gb424))
      replace NB424_412 := zM ((zm BK412.1 hg : gb424 ≠ gb412))
      replace BK412 := zM (zb BK412.1 hb)
      replace NB422_424 := zM ((zn BK422.1 hg : gb422 ≠ gb424))
      replace NB424_422 := zM ((zm BK422.1 hg : gb424 ≠ gb422))
      replace BK422 := zM (zb BK422.1 hb)
      refine hK.out _ _ zCs fun hHeld => ?_
      clear hK K
      refine zNo ?_
      exact norm_ zNr (hCont (gb424) _ ⟨hHeld, (zK BK411.1), (zK BK412.1), (zK BK422.1), (zK BK424.1), GW424.1, GE424.1, NB411_424.1, NB424_411.1, NB412_424.1, NB424_412.1, NB422_424.1, NB424_422.1, zB1⟩)
     ·refine zBs 10 57 #[.int .i64 0, .int .i64 0, .int .i64 0, .int .i64 0, .int .i64 0] ?_
      intro gb424 hg w35 hbox hb
      replace BK424 := zM hbox
      replace GW424 := zM (zW hg (below_size zB1))
      replace GE424 := zM (zW hg (below_size zB1))
      replace HB := zM (below_step zB1 hb)
      replace NB411_424 := zM ((zn BK411.1 hg : gb411 ≠ gb424))
      replace NB424_411 := zM ((zm BK411.1 hg : gb424 ≠ gb411))
      replace BK411 := zM (zb BK411.1 hb)
      replace NB412_424 := zM ((zn BK412.1 hg : gb412 ≠ gb424))
      replace NB424_412 := zM ((zm BK412.1 hg : gb424 ≠ gb412))
      replace BK412 := zM (zb BK412.1 hb)
      replace NB422_424 := zM ((zn BK422.1 hg : gb422 ≠ gb424))
      replace NB424_422 := zM ((zm BK422.1 hg : gb424 ≠ gb422))
      replace BK422 := zM (zb BK422.1 hb)
      refine hK.out _ _ zCs fun hHeld => ?_
      clear hK K
      refine zNo ?_
      refine zOn 6 (some 40) fun K hK => ?_
      refine zGs Try.func107 #[.agg #[.int .i64 t416, .int .i64 t417, .int .i64 t418, .int .i64 t419, .int .i64 t420], .slice A1_0 l1_0.length c1_0] ?_
      with_reducible refine (spec_Target.calls t416 t417 t418 t419 t420 _ _ l1_0 t423 _ ?side1 ?side2 A24.1).mono ?_
      (case side1 => exact zC (Kd.C_below HR1_0.1 HB.1))
      (case side2 => exact HC1_0.1)
      rintro e w36 ⟨rfl, hb⟩
      refine ⟨_, rfl, ?_⟩
      replace BK411 := zM (zb BK411.1 hb)
      replace BK412 := zM (zb BK412.1 hb)
      replace BK422 := zM (zb BK422.1 hb)
      replace BK424 := zM (zb BK424.1 hb)
      replace HB := zM (below_step zB1 hb)
      refine hK.out _ _ zCs fun hHeld => ?_
      clear hK K
      refine zNo ?_
      refine zPu 7 ?_
      exact norm_ zNr (hCont (gb424) _ ⟨hHeld, (zK BK411.1), (zK BK412.1), (zK BK422.1), (zK BK424.1), GW424.1, GE424.1, NB411_424.1, NB424_411.1, NB412_424.1, NB424_412.1, NB422_424.1, NB424_422.1, zB1⟩)
    rintro gb424 w37 ⟨hS_, h0_, h1_, h2_, h3_, h4_, h5_, h6_, h7_, h8_, h9_, h10_, h11_, h12_⟩
    replace BK411 := zM h0_
    replace BK412 := zM h1_
    replace BK422 := zM h2_
    replace BK424 := zM h3_
    replace GW424 := zM h4_
    replace GE424 := zM h5_
    replace NB411_424 := zM h6_
    replace NB424_411 := zM h7_
    replace NB412_424 := zM h8_
    replace NB424_412 := zM h9_
    replace NB422_424 := zM h10_
    replace NB424_422 := zM h11_
    replace HB := zM h12_
    have hHeld := hS_
    refine zNp ?_
    refine zOn 9 none fun K hK => ?_
    obtain ⟨hs38, hfs38⟩ := zHs BK424.1 0
    have hns38_0 := NB411_424.1
    have hns38_1 := NB412_424.1
    have hns38_2 := NB422_424.1
    have hms38_0 := NB424_411.1
    have hms38_1 := NB424_412.1
    have hms38_2 := NB424_422.1
    obtain ⟨hs39, hfs39⟩ := zHs BK424.1 1
    have hns39_0 := NB411_424.1
    have hns39_1 := NB412_424.1
    have hns39_2 := NB422_424.1
    have hms39_0 := NB424_411.1
    have hms39_1 := NB424_412.1
    have hms39_2 := NB424_422.1
    obtain ⟨hs40, hfs40⟩ := zHs BK424.1 2
    have hns40_0 := NB411_424.1
    have hns40_1 := NB412_424.1
    have hns40_2 := NB422_424.1
    have hms40_0 := NB424_411.1
    have hms40_1 := NB424_412.1
    have hms40_2 := NB424_422.1
    obtain ⟨hs41, hfs41⟩ := zHs BK424.1 3
    have hns41_0 := NB411_424.1
    have hns41_1 := NB412_424.1
    have hns41_2 := NB422_424.1
    have hms41_0 := NB424_411.1
    have hms41_1 := NB424_412.1
    have hms41_2 := NB424_422.1
    obtain ⟨hs42, hfs42⟩ := zHs BK424.1 4
    have hns42_0 := NB411_424.1
    have hns42_1 := NB412_424.1
    have hns42_2 := NB422_424.1
    have hms42_0 := NB424_411.1
    have hms42_1 := NB424_412.1
    have hms42_2 := NB424_422.1
    refine skip_ (w1 := ?_) (by rfl) rfl ?_ ?_
    rotate_left
    ·go_simp
     rfl
    refine hK.out _ _ zCs fun hHeld => ?_
    clear hK K
    refine done_ (done_of HT_.1 (by kernel_rfl)) ?_
    have hnb43 := NB424_411.1
    have hnc43 := NB411_424.1
    have hnb44 := NB424_412.1
    have hnc44 := NB412_424.1
    have hnb45 := NB424_422.1
    have hnc45 := NB422_424.1
    have hcz46 := zc_5 (w := w37) BK424.1
    have hcz47 := zc_5 (w := w37) BK412.1
    try go_wp2
    refine bodyPost_ret (results_ct rfl _ _ gb412 57 #[.int .i64 a2, .int .i64 a1_1, .int .i64 t423, .int .i64 (-1), .int .i64 (-1)] (0, 0) _ rfl zPq Try.underlying57 rfl (by kernel_rfl)) rfl ?_
    exact ⟨zE, zB1⟩
   rw [if_neg c25] at H
   have c25b0 := decide_eq_false c25
   clear c25
   replace H := zIt H
   obtain ⟨c48b0, H⟩ := H
   replace H := zIt H
   obtain ⟨c49b0, H⟩ := H
   replace H := zO H
   obtain ⟨⟨t426, t429, t430, t431⟩, A50, H⟩ := H
   try dsimp only at H
   by_cases c51 : t416 = 5
   ·rw [if_pos c51] at H
    have c51b0 : (t416 == 5) = true := beq_iff_eq.mpr c51
    have c51b1 : (t416 != 5) = false := bne_eq_false_iff_eq.mpr c51
    clear c51
    simp only [Option.some.injEq, Prod.mk.injEq] at H
    obtain ⟨rfl, rfl, rfl, rfl, rfl, rfl⟩ := H
    have hnb52 := NB411_412.1
    have hnc52 := NB412_411.1
    have hcz53 := zc_3 (w := wc) BK411.1
    obtain ⟨p415, q415, ad415, e415, hx415_0⟩ := zRd (Kd.at_int HR0.1 a1_1)
    cases e415
    replace hx415_0 := zHx HB.1 hx415_0
    try go_wp2_with (first | ((with_reducible refine zG Try.func106 31 #[.int .i64 (rd l0 a1_1)] ?_); (with_reducible refine (spec_Decode.calls (rd l0 a1_1) t416 t417 t418 t419 t420 t421 _ A23.1).mono ?_); rintro e w54 ⟨rfl, hb⟩; refine ⟨_, rfl, ?_⟩; replace BK411 := zM (zb BK411.1 hb); replace BK412 := zM (zb BK412.1 hb); replace HB := zM (below_step zB1 hb); clear hb) | ((with_reducible refine zBx 8 109 #[.int .i64 0, .int .i64 0, .int .i64 0, .int .i64 0, .int .i64 0] ?_); intro gb422 hg w55 hbox hb; have BK422 := zM hbox; have GW422 := zM (zW hg (below_size zB1)); have GE422 := zM (zW hg (below_size zB1)); replace HB := zM (below_step zB1 hb); have NB411_422 := zM ((zn BK411.1 hg : gb411 ≠ gb422)); have NB422_411 := zM ((zm BK411.1 hg : gb422 ≠ gb411)); replace BK411 := zM (zb BK411.1 hb); have NB412_422 := zM ((zn BK412.1 hg : gb412 ≠ gb422)); have NB422_412 := zM ((zm BK412.1 hg : gb422 ≠ gb412)); replace BK412 := zM (zb BK412.1 hb); clear hb hbox hg; have hnb56 := NB422_411.1; have hnc56 := NB411_422.1; have hnb57 := NB422_412.1; have hnc57 := NB412_422.1; have hcz58 := zc_5 (w := w55) BK422.1))
    generalize hw_ : (((((w55.setCell ⟨gb422, 0, none⟩ (.int .i64 t416)).setCell ⟨gb422, 1, none⟩ (.int .i64 t417)).setCell ⟨gb422, 2, none⟩ (.int .i64 t418)).setCell ⟨gb422, 3, none⟩ (.int .i64 t419)).setCell ⟨gb422, 4, none⟩ (.int .i64 t420)) = w59
    have n0_ : Aside0 (w59.heap[gb411]? = some (.cells #[.slice A1_0 l1_0.length c1_0, .int .i64 a1_1, .int .i64 a1_2] 53 (0, 0))) := ⟨by rw [← hw_]; exact zPq⟩
    have n1_ : Aside0 (w59.heap[gb412]? = some (.cells #[.int .i64 0, .int .i64 0, .int .i64 0, .int .i64 0, .int .i64 0] 57 (0, 0))) := ⟨by rw [← hw_]; exact zPq⟩
    have n2_ : Aside0 (w59.heap[gb422]? = some (.cells #[.int .i64 t416, .int .i64 t417, .int .i64 t418, .int .i64 t419, .int .i64 t420] 109 (0, 0))) := ⟨by rw [← hw_]; exact zp5 (zK BK422.1)⟩
    have n3_ : Aside0 (Below w.heap.size w w59) := ⟨by rw [← hw_]; exact zB1⟩
    (try clear BK411)
    (try clear BK412)
    (try clear BK422)
    (try clear HB)
    clear hw_
    have BK411 := n0_
    have BK412 := n1_
    have BK422 := n2_
    have HB := n3_
    clear n0_ n1_ n2_ n3_
    replace BK411 := zM (blk_drew BK411.1)
    replace BK412 := zM (blk_drew BK412.1)
    replace BK422 := zM (blk_drew BK422.1)
    replace HB := zM (below_drew1 HB.1)
    refine start_ (n := 10) (S := fun w' => w'.cell? ⟨gb411, 0, none⟩ = some (.slice A1_0 l1_0.length c1_0) ∧ w'.cell? ⟨gb411, 1, none⟩ = some (.int .i64 a1_1) ∧ w'.cell? ⟨gb411, 2, none⟩ = some (.int .i64 a1_2) ∧ w'.cell? ⟨gb422, 0, none⟩ = some (.int .i64 t416) ∧ w'.cell? ⟨gb422, 1, none⟩ = some (.int .i64 t417) ∧ w'.cell? ⟨gb422, 2, none⟩ = some (.int .i64 t418) ∧ w'.cell? ⟨gb422, 3, none⟩ = some (.int .i64 t419) ∧ w'.cell? ⟨gb422, 4, none⟩ = some (.int .i64 t420)) (ds := []) zq13_0 (by kernel_rfl) rfl rfl ⟨(blk_cell BK411.1 0).trans rfl, (blk_cell BK411.1 1).trans rfl, (blk_cell BK411.1 2).trans rfl, (blk_cell BK422.1 0).trans rfl, (blk_cell BK422.1 1).trans rfl, (blk_cell BK422.1 2).trans rfl, (blk_cell BK422.1 3).trans rfl, (blk_cell BK422.1 4).trans rfl⟩ (fun hHeld => ?_); refine with_tabW spec_EventOf.tab4 spec_EventOf.bits4 (fun HT_ HW_ => ?_)
    generalize w59.drew = w60 at BK411 BK412 BK422 HB hHeld ⊢
    refine zPu 0 ?_
    refine zPu 1 ?_
    refine zPu 4 ?_
    refine zTk8 2 hHeld ?_
    refine zTk8 3 hHeld ?_
    refine zTk8 5 hHeld ?_
    refine join_ (σ := Nat) 1 zq13_7 (fun s_ => [(40, .int .i64 t423), (10, .pointer (some ⟨s_, 0, none⟩)), (41, .agg #[.int .i64 a2, .int .i64 a1_1, .int .i64 t423, .int .i64 (-1), .int .i64 (-1)])]) (fun s_ w' => (w'.cell? ⟨gb411, 0, none⟩ = some (.slice A1_0 l1_0.length c1_0) ∧ w'.cell? ⟨gb411, 1, none⟩ = some (.int .i64 a1_1) ∧ w'.cell? ⟨gb411, 2, none⟩ = some (.int .i64 a1_2) ∧ w'.cell? ⟨gb422, 0, none⟩ = some (.int .i64 t416) ∧ w'.cell? ⟨gb422, 1, none⟩ = some (.int .i64 t417) ∧ w'.cell? ⟨gb422, 2, none⟩ = some (.int .i64 t418) ∧ w'.cell? ⟨gb422, 3, none⟩ = some (.int .i64 t419) ∧ w'.cell? ⟨gb422, 4, none⟩ = some (.int .i64 t420)) ∧ (w'.heap[gb411]? = some (.cells #[.slice A1_0 l1_0.length c1_0, .int .i64 a1_1, .int .i64 a1_2] 53 (0, 0))) ∧ (w'.heap[gb412]? = some (.cells #[.int .i64 0, .int .i64 0, .int .i64 0, .int .i64 0, .int .i64 0] 57 (0, 0))) ∧ (w'.heap[gb422]? = some (.cells #[.int .i64 t416, .int .i64 t417, .int .i64 t418, .int .i64 t419, .int .i64 t420] 109 (0, 0))) ∧ (w'.heap[s_]? = some (.cells #[.int .i64 0, .int .i64 0, .int .i64 0, .int .i64 0, .int .i64 0] 57 (0, 0))) ∧ (w.heap.size ≤ s_) ∧ (w.heap.size ≤ s_) ∧ (gb411 ≠ s_) ∧ (s_ ≠ gb411) ∧ (gb412 ≠ s_) ∧ (s_ ≠ gb412) ∧ (gb422 ≠ s_) ∧ (s_ ≠ gb422) ∧ (Below w.heap.size w w')) ?_ ?_
    rotate_left
    ·intro hCont
     refine two_ (i := 6) (j := 8) (Ni := some 40) (Nj := some 10) zq13_8 zq13_9 rfl rfl rfl rfl (two_of HT_.1 (by kernel_rfl)) (by decide) (by decide) (fun K hK => ?_) (fun K hK => ?_)
     ·refine zGs Try.func107 #[.agg #[.int .i64 t416, .int .i64 t417, .int .i64 t418, .int .i64 t419, .int .i64 t420], .slice A1_0 l1_0.length c1_0] ?_
      with_reducible refine (spec_Target.calls t416 t417 t418 t419 t420 _ _ l1_0 t423 _ ?side1 ?side2 A24.1).mono ?_
      (case side1 => exact zC (Kd.C_below HR1_0.1 HB.1))
      (case side2 => exact HC1_0.1)
      rintro e w61 ⟨rfl, hb⟩
      refine ⟨_, rfl, ?_⟩
      replace BK411 := zM (zb BK411.1 hb)
      replace BK412 := zM (zb BK412.1 hb)
      replace BK422 := zM (zb BK422.1 hb)
      replace HB := zM (below_step zB1 hb)
      refine hK.out _ _ zCs fun hHeld => ?_
      clear hK K
      refine zNo ?_
      refine zPu 7 ?_
      refine zOn 8 (some 10) fun K hK => ?_
      refine zBs 10 57 #[.int .i64 0, .int .i64 0, .int .i64 0, .int .i64 0, .int .i64 0] ?_
      intro gb424 hg w62 hbox hb
      replace BK424 := zM hbox
      replace GW424 := zM (zW hg (below_size zB1))
      replace GE424 := zM (zW hg (below_size zB1))
      replace HB := zM (below_step zB1 hb)
      replace NB411_424 := zM ((zn BK411.1 hg : gb411 ≠ gb424))
      replace NB424_411 := zM ((zm BK411.1 hg : gb424 ≠ gb411))
      replace BK411 := zM (zb BK411.1 hb)
      replace NB412_424 := zM ((zn BK412.1 hg : gb412 ≠ gb424))
      replace NB424_412 := zM ((zm BK412.1 hg : gb424 ≠ gb412))
      replace BK412 := zM (zb BK412.1 hb)
      replace NB422_424 := zM ((zn BK422.1 hg : gb422 ≠ gb424))
      replace NB424_422 := zM ((zm BK422.1 hg : gb424 ≠ gb422))
      replace BK422 := zM (zb BK422.1 hb)
      refine hK.out _ _ zCs fun hHeld => ?_
      clear hK K
      refine zNo ?_
      exact norm_ zNr (hCont (gb424) _ ⟨hHeld, (zK BK411.1), (zK BK412.1), (zK BK422.1), (zK BK424.1), GW424.1, GE424.1, NB411_424.1, NB424_411.1, NB412_424.1, NB424_412.1, NB422_424.1, NB424_422.1, zB1⟩)
     ·refine zBs 10 57 #[.int .i64 0, .int .i64 0, .int .i64 0, .int .i64 0, .int .i64 0] ?_
      intro gb424 hg w61 hbox hb
      replace BK424 := zM hbox
      replace GW424 := zM (zW hg (below_size zB1))
      replace GE424 := zM (zW hg (below_size zB1))
      replace HB := zM (below_step zB1 hb)
      replace NB411_424 := zM ((zn BK411.1 hg : gb411 ≠ gb424))
      replace NB424_411 := zM ((zm BK411.1 hg : gb424 ≠ gb411))
      replace BK411 := zM (zb BK411.1 hb)
      replace NB412_424 := zM ((zn BK412.1 hg : gb412 ≠ gb424))
      replace NB424_412 := zM ((zm BK412.1 hg : gb424 ≠ gb412))
      replace BK412 := zM (zb BK412.1 hb)
      replace NB422_424 := zM ((zn BK422.1 hg : gb422 ≠ gb424))
      replace NB424_422 := zM ((zm BK422.1 hg : gb424 ≠ gb422))
      replace BK422 := zM (zb BK422.1 hb)
      refine hK.out _ _ zCs fun hHeld => ?_
      clear hK K
      refine zNo ?_
      refine zOn 6 (some 40) fun K hK => ?_
      refine zGs Try.func107 #[.agg #[.int .i64 t416, .int .i64 t417, .int .i64 t418, .int .i64 t419, .int .i64 t420], .slice A1_0 l1_0.length c1_0] ?_
      with_reducible refine (spec_Target.calls t416 t417 t418 t419 t420 _ _ l1_0 t423 _ ?side1 ?side2 A24.1).mono ?_
      (case side1 => exact zC (Kd.C_below HR1_0.1 HB.1))
      (case side2 => exact HC1_0.1)
      rintro e w62 ⟨rfl, hb⟩
      refine ⟨_, rfl, ?_⟩
      replace BK411 := zM (zb BK411.1 hb)
      replace BK412 := zM (zb BK412.1 hb)
      replace BK422 := zM (zb BK422.1 hb)
      replace BK424 := zM (zb BK424.1 hb)
      replace HB := zM (below_step zB1 hb)
      refine hK.out _ _ zCs fun hHeld => ?_
      clear hK K
      refine zNo ?_
      refine zPu 7 ?_
      exact norm_ zNr (hCont (gb424) _ ⟨hHeld, (zK BK411.1), (zK BK412.1), (zK BK422.1), (zK BK424.1), GW424.1, GE424.1, NB411_424.1, NB424_411.1, NB412_424.1, NB424_412.1, NB422_424.1, NB424_422.1, zB1⟩)
    rintro gb424 w63 ⟨hS_, h0_, h1_, h2_, h3_, h4_, h5_, h6_, h7_, h8_, h9_, h10_, h11_, h12_⟩
    replace BK411 := zM h0_
    replace BK412 := zM h1_
    replace BK422 := zM h2_
    replace BK424 := zM h3_
    replace GW424 := zM h4_
    replace GE424 := zM h5_
    replace NB411_424 := zM h6_
    replace NB424_411 := zM h7_
    replace NB412_424 := zM h8_
    replace NB424_412 := zM h9_
    replace NB422_424 := zM h10_
    replace NB424_422 := zM h11_
    replace HB := zM h12_
    have hHeld := hS_
    refine zNp ?_
    refine zOn 9 none fun K hK => ?_
    obtain ⟨hs64, hfs64⟩ := zHs BK424.1 0
    have hns64_0 := NB411_424.1
    have hns64_1 := NB412_424.1
    have hns64_2 := NB422_424.1
    have hms64_0 := NB424_411.1
    have hms64_1 := NB424_412.1
    have hms64_2 := NB424_422.1
    obtain ⟨hs65, hfs65⟩ := zHs BK424.1 1
    have hns65_0 := NB411_424.1
    have hns65_1 := NB412_424.1
    have hns65_2 := NB422_424.1
    have hms65_0 := NB424_411.1
    have hms65_1 := NB424_412.1
    have hms65_2 := NB424_422.1
    obtain ⟨hs66, hfs66⟩ := zHs BK424.1 2
    have hns66_0 := NB411_424.1
    have hns66_1 := NB412_424.1
    have hns66_2 := NB422_424.1
    have hms66_0 := NB424_411.1
    have hms66_1 := NB424_412.1
    have hms66_2 := NB424_422.1
    obtain ⟨hs67, hfs67⟩ := zHs BK424.1 3
    have hns67_0 := NB411_424.1
    have hns67_1 := NB412_424.1
    have hns67_2 := NB422_424.1
    have hms67_0 := NB424_411.1
    have hms67_1 := NB424_412.1
    have hms67_2 := NB424_422.1
    obtain ⟨hs68, hfs68⟩ := zHs BK424.1 4
    have hns68_0 := NB411_424.1
    have hns68_1 := NB412_424.1
    have hns68_2 := NB422_424.1
    have hms68_0 := NB424_411.1
    have hms68_1 := NB424_412.1
    have hms68_2 := NB424_422.1
    refine skip_ (w1 := ?_) (by rfl) rfl ?_ ?_
    rotate_left
    ·go_simp
     rfl
    refine hK.out _ _ zCs fun hHeld => ?_
    clear hK K
    refine done_ (done_of HT_.1 (by kernel_rfl)) ?_
    have hnb69 := NB424_411.1
    have hnc69 := NB411_424.1
    have hnb70 := NB424_412.1
    have hnc70 := NB412_424.1
    have hnb71 := NB424_422.1
    have hnc71 := NB422_424.1
    have hcz72 := zc_5 (w := w63) BK424.1
    try go_wp2
    generalize hw_ : (((((w63.setCell ⟨gb424, 0, none⟩ (.int .i64 a2)).setCell ⟨gb424, 1, none⟩ (.int .i64 a1_1)).setCell ⟨gb424, 2, none⟩ (.int .i64 t423)).setCell ⟨gb424, 3, none⟩ (.int .i64 (-1))).setCell ⟨gb424, 4, none⟩ (.int .i64 (-1))) = w73
    have n0_ : Aside0 (w73.heap[gb411]? = some (.cells #[.slice A1_0 l1_0.length c1_0, .int .i64 a1_1, .int .i64 a1_2] 53 (0, 0))) := ⟨by rw [← hw_]; exact zPq⟩
    have n1_ : Aside0 (w73.heap[gb412]? = some (.cells #[.int .i64 0, .int .i64 0, .int .i64 0, .int .i64 0, .int .i64 0] 57 (0, 0))) := ⟨by rw [← hw_]; exact zPq⟩
    have n2_ : Aside0 (w73.heap[gb422]? = some (.cells #[.int .i64 t416, .int .i64 t417, .int .i64 t418, .int .i64 t419, .int .i64 t420] 109 (0, 0))) := ⟨by rw [← hw_]; exact zPq⟩
    have n3_ : Aside0 (w73.heap[gb424]? = some (.cells #[.int .i64 a2, .int .i64 a1_1, .int .i64 t423, .int .i64 (-1), .int .i64 (-1)] 57 (0, 0))) := ⟨by rw [← hw_]; exact zp5 (zK BK424.1)⟩
    have n4_ : Aside0 (Below w.heap.size w w73) := ⟨by rw [← hw_]; exact zB1⟩
    (try clear BK411)
    (try clear BK412)
    (try clear BK422)
    (try clear BK424)
    (try clear HB)
    clear hw_
    have BK411 := n0_
    have BK412 := n1_
    have BK422 := n2_
    have BK424 := n3_
    have HB := n4_
    clear n0_ n1_ n2_ n3_ n4_
    replace BK411 := zM (blk_drew BK411.1)
    replace BK412 := zM (blk_drew BK412.1)
    replace BK422 := zM (blk_drew BK422.1)
    replace BK424 := zM (blk_drew BK424.1)
    replace HB := zM (below_drew1 HB.1)
    obtain ⟨p425, q425, ad425, e425, hx425_0⟩ := zRd (Kd.at_int HR0.1 t423)
    have hw425_0 := hx425_0
    obtain rfl : ad415 = ad425 := (by injection e425)
    replace hx425_0 := zHx HB.1 hx425_0
    refine start_ (n := 13) (S := fun w' => w'.cell? ⟨gb411, 0, none⟩ = some (.slice A1_0 l1_0.length c1_0) ∧ w'.cell? ⟨gb411, 1, none⟩ = some (.int .i64 a1_1) ∧ w'.cell? ⟨gb411, 2, none⟩ = some (.int .i64 a1_2) ∧ w'.cell? ⟨gb422, 0, none⟩ = some (.int .i64 t416) ∧ w'.cell? ⟨gb422, 1, none⟩ = some (.int .i64 t417) ∧ w'.cell? ⟨gb422, 2, none⟩ = some (.int .i64 t418) ∧ w'.cell? ⟨gb422, 3, none⟩ = some (.int .i64 t419) ∧ w'.cell? ⟨gb422, 4, none⟩ = some (.int .i64 t420) ∧ w'.cell? ⟨gb424, 0, none⟩ = some (.int .i64 a2) ∧ w'.cell? ⟨gb424, 1, none⟩ = some (.int .i64 a1_1) ∧ w'.cell? ⟨gb424, 2, none⟩ = some (.int .i64 t423) ∧ w'.cell? ⟨gb424, 3, none⟩ = some (.int .i64 (-1)) ∧ w'.cell? ⟨gb424, 4, none⟩ = some (.int .i64 (-1)) ∧ w'.cell? (ad415.add (t423).toNat) = some (.int .i64 (rd l0 t423))) (ds := [12]) zq13_13 (by kernel_rfl) rfl rfl ⟨(blk_cell BK411.1 0).trans rfl, (blk_cell BK411.1 1).trans rfl, (blk_cell BK411.1 2).trans rfl, (blk_cell BK422.1 0).trans rfl, (blk_cell BK422.1 1).trans rfl, (blk_cell BK422.1 2).trans rfl, (blk_cell BK422.1 3).trans rfl, (blk_cell BK422.1 4).trans rfl, (blk_cell BK424.1 0).trans rfl, (blk_cell BK424.1 1).trans rfl, (blk_cell BK424.1 2).trans rfl, (blk_cell BK424.1 3).trans rfl, (blk_cell BK424.1 4).trans rfl, ((HB.1.cell (World.block_lt_of_cell? w _ hw425_0)).trans hw425_0)⟩ (fun hHeld => ?_); refine with_tabW spec_EventOf.tab7 spec_EventOf.bits7 (fun HT_ HW_ => ?_)
    generalize w73.drew = w74 at BK411 BK412 BK422 BK424 HB hx425_0 hHeld ⊢
    refine zPu 2 ?_
    refine zPu 3 ?_
    refine zTk14 0 hHeld ?_
    refine zTk14 1 hHeld ?_
    refine zTk14 4 hHeld ?_
    refine zPu 5 ?_
    refine zTk14 6 hHeld ?_
    refine zOn 7 (some 54) fun K hK => ?_
    refine zGs Try.func108 #[.agg #[.slice A1_0 l1_0.length c1_0, .int .i64 a1_1, .int .i64 a1_2], .agg #[.int .i64 t416, .int .i64 t417, .int .i64 t418, .int .i64 t419, .int .i64 t420], .int .i64 (rd l0 t423)] ?_
    with_reducible refine (spec_Work.calls kj3 _ _ l1_0 a1_1 a1_2 t416 t417 t418 t419 t420 (rd l0 t423) t426 t429 t430 t431 _ ?side1 ?side2 A50.1).mono ?_
    (case side1 => exact zC (Kd.C_below HR1_0.1 HB.1))
    (case side2 => exact HC1_0.1)
    rintro e w75 ⟨v427, rfl, ho0, hb⟩
    refine ⟨_, rfl, ?_⟩
    have HO428 := zM (Kd.R_lower ho0 (below_size zB1))
    replace BK411 := zM (zb BK411.1 hb)
    replace BK412 := zM (zb BK412.1 hb)
    replace BK422 := zM (zb BK422.1 hb)
    replace BK424 := zM (zb BK424.1 hb)
    replace HB := zM (below_step zB1 hb)
    (try clear ho0)
    refine hK.out _ _ ⟨(blk_cell BK411.1 0).trans rfl, (blk_cell BK411.1 1).trans rfl, (blk_cell BK411.1 2).trans rfl, (blk_cell BK422.1 0).trans rfl, (blk_cell BK422.1 1).trans rfl, (blk_cell BK422.1 2).trans rfl, (blk_cell BK422.1 3).trans rfl, (blk_cell BK422.1 4).trans rfl, (blk_cell BK424.1 0).trans rfl, (blk_cell BK424.1 1).trans rfl, (blk_cell BK424.1 2).trans rfl, (blk_cell BK424.1 3).trans rfl, (blk_cell BK424.1 4).trans rfl, ((HB.1.cell (World.block_lt_of_cell? w _ hw425_0)).trans hw425_0)⟩ (fun hHeld => ?_)
    clear hK K
    refine zNo ?_
    refine zPu 8 ?_
    refine zPu 9 ?_
    refine zPu 10 ?_
    refine zPu 11 ?_
    refine last_ (i := 12) (N := none) zq13_26 rfl rfl (one_of HT_.1 (by kernel_rfl)) (by decide) (fun K hK => ?_)
    obtain ⟨hs76, hfs76⟩ := zHs BK424.1 4
    have hns76_0 := NB411_424.1
    have hns76_1 := NB412_424.1
    have hns76_2 := NB422_424.1
    have hms76_0 := NB424_411.1
    have hms76_1 := NB424_412.1
    have hms76_2 := NB424_422.1
    refine skip_ (w1 := ?_) (by rfl) rfl ?_ ?_
    rotate_left
    ·go_simp
     rfl
    refine hK.out _ _ ?_
    clear hK K
    refine done_ (done_of HT_.1 (by kernel_rfl)) ?_
    have hcz77 := zc_5 (w := w75) BK422.1
    have hcz78 := zc_5 (w := w75) BK424.1
    have hcz79 := zc_5 (w := w75) BK412.1
    try go_wp2
    refine bodyPost_ret (results_ct rfl _ _ gb412 57 #[.int .i64 a2, .int .i64 a1_1, .int .i64 t423, .int .i64 (-1), .int .i64 t431] (0, 0) _ rfl zPq Try.underlying57 rfl (by kernel_rfl)) rfl ?_
    exact ⟨zE, zB1⟩
   rw [if_neg c51] at H
   have c51b0 : (t416 == 5) = false := beq_eq_false_iff_ne.mpr c51
   have c51b1 : (t416 != 5) = true := bne_iff_ne.mpr c51
   simp only [Option.some.injEq, Prod.mk.injEq] at H
   obtain ⟨rfl, rfl, rfl, rfl, rfl, rfl⟩ := H
   have hnb80 := NB411_412.1
   have hnc80 := NB412_411.1
   have hcz81 := zc_3 (w := wc) BK411.1
   obtain ⟨p415, q415, ad415, e415, hx415_0⟩ := zRd (Kd.at_int HR0.1 a1_1)
   cases e415
   replace hx415_0 := zHx HB.1 hx415_0
   try go_wp2_with (first | ((with_reducible refine zG Try.func106 31 #[.int .i64 (rd l0 a1_1)] ?_); (with_reducible refine (spec_Decode.calls (rd l0 a1_1) t416 t417 t418 t419 t420 t421 _ A23.1).mono ?_); rintro e w82 ⟨rfl, hb⟩; refine ⟨_, rfl, ?_⟩; replace BK411 := zM (zb BK411.1 hb); replace BK412 := zM (zb BK412.1 hb); replace HB := zM (below_step zB1 hb); clear hb) | ((with_reducible refine zBx 8 109 #[.int .i64 0, .int .i64 0, .int .i64 0, .int .i64 0, .int .i64 0] ?_); intro gb422 hg w83 hbox hb; have BK422 := zM hbox; have GW422 := zM (zW hg (below_size zB1)); have GE422 := zM (zW hg (below_size zB1)); replace HB := zM (below_step zB1 hb); have NB411_422 := zM ((zn BK411.1 hg : gb411 ≠ gb422)); have NB422_411 := zM ((zm BK411.1 hg : gb422 ≠ gb411)); replace BK411 := zM (zb BK411.1 hb); have NB412_422 := zM ((zn BK412.1 hg : gb412 ≠ gb422)); have NB422_412 := zM ((zm BK412.1 hg : gb422 ≠ gb412)); replace BK412 := zM (zb BK412.1 hb); clear hb hbox hg; have hnb84 := NB422_411.1; have hnc84 := NB411_422.1; have hnb85 := NB422_412.1; have hnc85 := NB412_422.1; have hcz86 := zc_5 (w := w83) BK422.1))
   generalize hw_ : (((((w83.setCell ⟨gb422, 0, none⟩ (.int .i64 t416)).setCell ⟨gb422, 1, none⟩ (.int .i64 t417)).setCell ⟨gb422, 2, none⟩ (.int .i64 t418)).setCell ⟨gb422, 3, none⟩ (.int .i64 t419)).setCell ⟨gb422, 4, none⟩ (.int .i64 t420)) = w87
   have n0_ : Aside0 (w87.heap[gb411]? = some (.cells #[.slice A1_0 l1_0.length c1_0, .int .i64 a1_1, .int .i64 a1_2] 53 (0, 0))) := ⟨by rw [← hw_]; exact zPq⟩
   have n1_ : Aside0 (w87.heap[gb412]? = some (.cells #[.int .i64 0, .int .i64 0, .int .i64 0, .int .i64 0, .int .i64 0] 57 (0, 0))) := ⟨by rw [← hw_]; exact zPq⟩
   have n2_ : Aside0 (w87.heap[gb422]? = some (.cells #[.int .i64 t416, .int .i64 t417, .int .i64 t418, .int .i64 t419, .int .i64 t420] 109 (0, 0))) := ⟨by rw [← hw_]; exact zp5 (zK BK422.1)⟩
   have n3_ : Aside0 (Below w.heap.size w w87) := ⟨by rw [← hw_]; exact zB1⟩
   (try clear BK411)
   (try clear BK412)
   (try clear BK422)
   (try clear HB)
   clear hw_
   have BK411 := n0_
   have BK412 := n1_
   have BK422 := n2_
   have HB := n3_
   clear n0_ n1_ n2_ n3_
   replace BK411 := zM (blk_drew BK411.1)
   replace BK412 := zM (blk_drew BK412.1)
   replace BK422 := zM (blk_drew BK422.1)
   replace HB := zM (below_drew1 HB.1)
   refine start_ (n := 10) (S := fun w' => w'.cell? ⟨gb411, 0, none⟩ = some (.slice A1_0 l1_0.length c1_0) ∧ w'.cell? ⟨gb411, 1, none⟩ = some (.int .i64 a1_1) ∧ w'.cell? ⟨gb411, 2, none⟩ = some (.int .i64 a1_2) ∧ w'.cell? ⟨gb422, 0, none⟩ = some (.int .i64 t416) ∧ w'.cell? ⟨gb422, 1, none⟩ = some (.int .i64 t417) ∧ w'.cell? ⟨gb422, 2, none⟩ = some (.int .i64 t418) ∧ w'.cell? ⟨gb422, 3, none⟩ = some (.int .i64 t419) ∧ w'.cell? ⟨gb422, 4, none⟩ = some (.int .i64 t420)) (ds := []) zq13_0 (by kernel_rfl) rfl rfl ⟨(blk_cell BK411.1 0).trans rfl, (blk_cell BK411.1 1).trans rfl, (blk_cell BK411.1 2).trans rfl, (blk_cell BK422.1 0).trans rfl, (blk_cell BK422.1 1).trans rfl, (blk_cell BK422.1 2).trans rfl, (blk_cell BK422.1 3).trans rfl, (blk_cell BK422.1 4).trans rfl⟩ (fun hHeld => ?_); refine with_tabW spec_EventOf.tab4 spec_EventOf.bits4 (fun HT_ HW_ => ?_)
   generalize w87.drew = w88 at BK411 BK412 BK422 HB hHeld ⊢
   refine zPu 0 ?_
   refine zPu 1 ?_
   refine zPu 4 ?_
   refine zTk8 2 hHeld ?_
   refine zTk8 3 hHeld ?_
   refine zTk8 5 hHeld ?_
   refine join_ (σ := Nat) 1 zq13_7 (fun s_ => [(40, .int .i64 t423), (10, .pointer (some ⟨s_, 0, none⟩)), (41, .agg #[.int .i64 a2, .int .i64 a1_1, .int .i64 t423, .int .i64 (-1), .int .i64 (-1)])]) (fun s_ w' => (w'.cell? ⟨gb411, 0, none⟩ = some (.slice A1_0 l1_0.length c1_0) ∧ w'.cell? ⟨gb411, 1, none⟩ = some (.int .i64 a1_1) ∧ w'.cell? ⟨gb411, 2, none⟩ = some (.int .i64 a1_2) ∧ w'.cell? ⟨gb422, 0, none⟩ = some (.int .i64 t416) ∧ w'.cell? ⟨gb422, 1, none⟩ = some (.int .i64 t417) ∧ w'.cell? ⟨gb422, 2, none⟩ = some (.int .i64 t418) ∧ w'.cell? ⟨gb422, 3, none⟩ = some (.int .i64 t419) ∧ w'.cell? ⟨gb422, 4, none⟩ = some (.int .i64 t420)) ∧ (w'.heap[gb411]? = some (.cells #[.slice A1_0 l1_0.length c1_0, .int .i64 a1_1, .int .i64 a1_2] 53 (0, 0))) ∧ (w'.heap[gb412]? = some (.cells #[.int .i64 0, .int .i64 0, .int .i64 0, .int .i64 0, .int .i64 0] 57 (0, 0))) ∧ (w'.heap[gb422]? = some (.cells #[.int .i64 t416, .int .i64 t417, .int .i64 t418, .int .i64 t419, .int .i64 t420] 109 (0, 0))) ∧ (w'.heap[s_]? = some (.cells #[.int .i64 0, .int .i64 0, .int .i64 0, .int .i64 0, .int .i64 0] 57 (0, 0))) ∧ (w.heap.size ≤ s_) ∧ (w.heap.size ≤ s_) ∧ (gb411 ≠ s_) ∧ (s_ ≠ gb411) ∧ (gb412 ≠ s_) ∧ (s_ ≠ gb412) ∧ (gb422 ≠ s_) ∧ (s_ ≠ gb422) ∧ (Below w.heap.size w w')) ?_ ?_
   rotate_left
   ·intro hCont
    refine two_ (i := 6) (j := 8) (Ni := some 40) (Nj := some 10) zq13_8 zq13_9 rfl rfl rfl rfl (two_of HT_.1 (by kernel_rfl)) (by decide) (by decide) (fun K hK => ?_) (fun K hK => ?_)
    ·refine zGs Try.func107 #[.agg #[.int .i64 t416, .int .i64 t417, .int .i64 t418, .int .i64 t419, .int .i64 t420], .slice A1_0 l1_0.length c1_0] ?_
     with_reducible refine (spec_Target.calls t416 t417 t418 t419 t420 _ _ l1_0 t423 _ ?side1 ?side2 A24.1).mono ?_
     (case side1 => exact zC (Kd.C_below HR1_0.1 HB.1))
     (case side2 => exact HC1_0.1)
     rintro e w89 ⟨rfl, hb⟩
     refine ⟨_, rfl, ?_⟩
     replace BK411 := zM (zb BK411.1 hb)
     replace BK412 := zM (zb BK412.1 hb)
     replace BK422 := zM (zb BK422.1 hb)
     replace HB := zM (below_step zB1 hb)
     refine hK.out _ _ zCs fun hHeld => ?_
     clear hK K
     refine zNo ?_
     refine zPu 7 ?_
     refine zOn 8 (some 10) fun K hK => ?_
     refine zBs 10 57 #[.int .i64 0, .int .i64 0, .int .i64 0, .int .i64 0, .int .i64 0] ?_
     intro gb424 hg w90 hbox hb
     replace BK424 := zM hbox
     replace GW424 := zM (zW hg (below_size zB1))
     replace GE424 := zM (zW hg (below_size zB1))
     replace HB := zM (below_step zB1 hb)
     replace NB411_424 := zM ((zn BK411.1 hg : gb411 ≠ gb424))
     replace NB424_411 := zM ((zm BK411.1 hg : gb424 ≠ gb411))
     replace BK411 := zM (zb BK411.1 hb)
     replace NB412_424 := zM ((zn BK412.1 hg : gb412 ≠ gb424))
     replace NB424_412 := zM ((zm BK412.1 hg : gb424 ≠ gb412))
     replace BK412 := zM (zb BK412.1 hb)
     replace NB422_424 := zM ((zn BK422.1 hg : gb422 ≠ gb424))
     replace NB424_422 := zM ((zm BK422.1 hg : gb424 ≠ gb422))
     replace BK422 := zM (zb BK422.1 hb)
     refine hK.out _ _ zCs fun hHeld => ?_
     clear hK K
     refine zNo ?_
     exact norm_ zNr (hCont (gb424) _ ⟨hHeld, (zK BK411.1), (zK BK412.1), (zK BK422.1), (zK BK424.1), GW424.1, GE424.1, NB411_424.1, NB424_411.1, NB412_424.1, NB424_412.1, NB422_424.1, NB424_422.1, zB1⟩)
    ·refine zBs 10 57 #[.int .i64 0, .int .i64 0, .int .i64 0, .int .i64 0, .int .i64 0] ?_
     intro gb424 hg w89 hbox hb
     replace BK424 := zM hbox
     replace GW424 := zM (zW hg (below_size zB1))
     replace GE424 := zM (zW hg (below_size zB1))
     replace HB := zM (below_step zB1 hb)
     replace NB411_424 := zM ((zn BK411.1 hg : gb411 ≠ gb424))
     replace NB424_411 := zM ((zm BK411.1 hg : gb424 ≠ gb411))
     replace BK411 := zM (zb BK411.1 hb)
     replace NB412_424 := zM ((zn BK412.1 hg : gb412 ≠ gb424))
     replace NB424_412 := zM ((zm BK412.1 hg : gb424 ≠ gb412))
     replace BK412 := zM (zb BK412.1 hb)
     replace NB422_424 := zM ((zn BK422.1 hg : gb422 ≠ gb424))
     replace NB424_422 := zM ((zm BK422.1 hg : gb424 ≠ gb422))
     replace BK422 := zM (zb BK422.1 hb)
     refine hK.out _ _ zCs fun hHeld => ?_
     clear hK K
     refine zNo ?_
     refine zOn 6 (some 40) fun K hK => ?_
     refine zGs Try.func107 #[.agg #[.int .i64 t416, .int .i64 t417, .int .i64 t418, .int .i64 t419, .int .i64 t420], .slice A1_0 l1_0.length c1_0] ?_
     with_reducible refine (spec_Target.calls t416 t417 t418 t419 t420 _ _ l1_0 t423 _ ?side1 ?side2 A24.1).mono ?_
     (case side1 => exact zC (Kd.C_below HR1_0.1 HB.1))
     (case side2 => exact HC1_0.1)
     rintro e w90 ⟨rfl, hb⟩
     refine ⟨_, rfl, ?_⟩
     replace BK411 := zM (zb BK411.1 hb)
     replace BK412 := zM (zb BK412.1 hb)
     replace BK422 := zM (zb BK422.1 hb)
     replace BK424 := zM (zb BK424.1 hb)
     replace HB := zM (below_step zB1 hb)
     refine hK.out _ _ zCs fun hHeld => ?_
     clear hK K
     refine zNo ?_
     refine zPu 7 ?_
     exact norm_ zNr (hCont (gb424) _ ⟨hHeld, (zK BK411.1), (zK BK412.1), (zK BK422.1), (zK BK424.1), GW424.1, GE424.1, NB411_424.1, NB424_411.1, NB412_424.1, NB424_412.1, NB422_424.1, NB424_422.1, zB1⟩)
   rintro gb424 w91 ⟨hS_, h0_, h1_, h2_, h3_, h4_, h5_, h6_, h7_, h8_, h9_, h10_, h11_, h12_⟩
   replace BK411 := zM h0_
   replace BK412 := zM h1_
   replace BK422 := zM h2_
   replace BK424 := zM h3_
   replace GW424 := zM h4_
   replace GE424 := zM h5_
   replace NB411_424 := zM h6_
   replace NB424_411 := zM h7_
   replace NB412_424 := zM h8_
   replace NB424_412 := zM h9_
   replace NB422_424 := zM h10_
   replace NB424_422 := zM h11_
   replace HB := zM h12_
   have hHeld := hS_
   refine zNp ?_
   refine zOn 9 none fun K hK => ?_
   obtain ⟨hs92, hfs92⟩ := zHs BK424.1 0
   have hns92_0 := NB411_424.1
   have hns92_1 := NB412_424.1
   have hns92_2 := NB422_424.1
   have hms92_0 := NB424_411.1
   have hms92_1 := NB424_412.1
   have hms92_2 := NB424_422.1
   obtain ⟨hs93, hfs93⟩ := zHs BK424.1 1
   have hns93_0 := NB411_424.1
   have hns93_1 := NB412_424.1
   have hns93_2 := NB422_424.1
   have hms93_0 := NB424_411.1
   have hms93_1 := NB424_412.1
   have hms93_2 := NB424_422.1
   obtain ⟨hs94, hfs94⟩ := zHs BK424.1 2
   have hns94_0 := NB411_424.1
   have hns94_1 := NB412_424.1
   have hns94_2 := NB422_424.1
   have hms94_0 := NB424_411.1
   have hms94_1 := NB424_412.1
   have hms94_2 := NB424_422.1
   obtain ⟨hs95, hfs95⟩ := zHs BK424.1 3
   have hns95_0 := NB411_424.1
   have hns95_1 := NB412_424.1
   have hns95_2 := NB422_424.1
   have hms95_0 := NB424_411.1
   have hms95_1 := NB424_412.1
   have hms95_2 := NB424_422.1
   obtain ⟨hs96, hfs96⟩ := zHs BK424.1 4
   have hns96_0 := NB411_424.1
   have hns96_1 := NB412_424.1
   have hns96_2 := NB422_424.1
   have hms96_0 := NB424_411.1
   have hms96_1 := NB424_412.1
   have hms96_2 := NB424_422.1
   refine skip_ (w1 := ?_) (by rfl) rfl ?_ ?_
   rotate_left
   ·go_simp
    rfl
   refine hK.out _ _ zCs fun hHeld => ?_
   clear hK K
   refine done_ (done_of HT_.1 (by kernel_rfl)) ?_
   have hnb97 := NB424_411.1
   have hnc97 := NB411_424.1
   have hnb98 := NB424_412.1
   have hnc98 := NB412_424.1
   have hnb99 := NB424_422.1
   have hnc99 := NB422_424.1
   have hcz100 := zc_5 (w := w91) BK424.1
   try go_wp2
   generalize hw_ : (((((w91.setCell ⟨gb424, 0, none⟩ (.int .i64 a2)).setCell ⟨gb424, 1, none⟩ (.int .i64 a1_1)).setCell ⟨gb424, 2, none⟩ (.int .i64 t423)).setCell ⟨gb424, 3, none⟩ (.int .i64 (-1))).setCell ⟨gb424, 4, none⟩ (.int .i64 (-1))) = w101
   have n0_ : Aside0 (w101.heap[gb411]? = some (.cells #[.slice A1_0 l1_0.length c1_0, .int .i64 a1_1, .int .i64 a1_2] 53 (0, 0))) := ⟨by rw [← hw_]; exact zPq⟩
   have n1_ : Aside0 (w101.heap[gb412]? = some (.cells #[.int .i64 0, .int .i64 0, .int .i64 0, .int .i64 0, .int .i64 0] 57 (0, 0))) := ⟨by rw [← hw_]; exact zPq⟩
   have n2_ : Aside0 (w101.heap[gb422]? = some (.cells #[.int .i64 t416, .int .i64 t417, .int .i64 t418, .int .i64 t419, .int .i64 t420] 109 (0, 0))) := ⟨by rw [← hw_]; exact zPq⟩
   have n3_ : Aside0 (w101.heap[gb424]? = some (.cells #[.int .i64 a2, .int .i64 a1_1, .int .i64 t423, .int .i64 (-1), .int .i64 (-1)] 57 (0, 0))) := ⟨by rw [← hw_]; exact zp5 (zK BK424.1)⟩
   have n4_ : Aside0 (Below w.heap.size w w101) := ⟨by rw [← hw_]; exact zB1⟩
   (try clear BK411)
   (try clear BK412)
   (try clear BK422)
   (try clear BK424)
   (try clear HB)
   clear hw_
   have BK411 := n0_
   have BK412 := n1_
   have BK422 := n2_
   have BK424 := n3_
   have HB := n4_
   clear n0_ n1_ n2_ n3_ n4_
   replace BK411 := zM (blk_drew BK411.1)
   replace BK412 := zM (blk_drew BK412.1)
   replace BK422 := zM (blk_drew BK422.1)
   replace BK424 := zM (blk_drew BK424.1)
   replace HB := zM (below_drew1 HB.1)
   obtain ⟨p425, q425, ad425, e425, hx425_0⟩ := zRd (Kd.at_int HR0.1 t423)
   have hw425_0 := hx425_0
   obtain rfl : ad415 = ad425 := (by injection e425)
   replace hx425_0 := zHx HB.1 hx425_0
   refine start_ (n := 13) (S := fun w' => w'.cell? ⟨gb411, 0, none⟩ = some (.slice A1_0 l1_0.length c1_0) ∧ w'.cell? ⟨gb411, 1, none⟩ = some (.int .i64 a1_1) ∧ w'.cell? ⟨gb411, 2, none⟩ = some (.int .i64 a1_2) ∧ w'.cell? ⟨gb422, 0, none⟩ = some (.int .i64 t416) ∧ w'.cell? ⟨gb422, 1, none⟩ = some (.int .i64 t417) ∧ w'.cell? ⟨gb422, 2, none⟩ = some (.int .i64 t418) ∧ w'.cell? ⟨gb422, 3, none⟩ = some (.int .i64 t419) ∧ w'.cell? ⟨gb422, 4, none⟩ = some (.int .i64 t420) ∧ w'.cell? ⟨gb424, 0, none⟩ = some (.int .i64 a2) ∧ w'.cell? ⟨gb424, 1, none⟩ = some (.int .i64 a1_1) ∧ w'.cell? ⟨gb424, 2, none⟩ = some (.int .i64 t423) ∧ w'.cell? ⟨gb424, 3, none⟩ = some (.int .i64 (-1)) ∧ w'.cell? ⟨gb424, 4, none⟩ = some (.int .i64 (-1)) ∧ w'.cell? (ad415.add (t423).toNat) = some (.int .i64 (rd l0 t423))) (ds := [12]) zq13_13 (by kernel_rfl) rfl rfl ⟨(blk_cell BK411.1 0).trans rfl, (blk_cell BK411.1 1).trans rfl, (blk_cell BK411.1 2).trans rfl, (blk_cell BK422.1 0).trans rfl, (blk_cell BK422.1 1).trans rfl, (blk_cell BK422.1 2).trans rfl, (blk_cell BK422.1 3).trans rfl, (blk_cell BK422.1 4).trans rfl, (blk_cell BK424.1 0).trans rfl, (blk_cell BK424.1 1).trans rfl, (blk_cell BK424.1 2).trans rfl, (blk_cell BK424.1 3).trans rfl, (blk_cell BK424.1 4).trans rfl, ((HB.1.cell (World.block_lt_of_cell? w _ hw425_0)).trans hw425_0)⟩ (fun hHeld => ?_); refine with_tabW spec_EventOf.tab7 spec_EventOf.bits7 (fun HT_ HW_ => ?_)
   generalize w101.drew = w102 at BK411 BK412 BK422 BK424 HB hx425_0 hHeld ⊢
   refine zPu 2 ?_
   refine zPu 3 ?_
   refine zTk14 0 hHeld ?_
   refine zTk14 1 hHeld ?_
   refine zTk14 4 hHeld ?_
   refine zPu 5 ?_
   refine zTk14 6 hHeld ?_
   refine zOn 7 (some 54) fun K hK => ?_
   refine zGs Try.func108 #[.agg #[.slice A1_0 l1_0.length c1_0, .int .i64 a1_1, .int .i64 a1_2], .agg #[.int .i64 t416, .int .i64 t417, .int .i64 t418, .int .i64 t419, .int .i64 t420], .int .i64 (rd l0 t423)] ?_
   with_reducible refine (spec_Work.calls kj3 _ _ l1_0 a1_1 a1_2 t416 t417 t418 t419 t420 (rd l0 t423) t426 t429 t430 t431 _ ?side1 ?side2 A50.1).mono ?_
   (case side1 => exact zC (Kd.C_below HR1_0.1 HB.1))
   (case side2 => exact HC1_0.1)
   rintro e w103 ⟨v427, rfl, ho0, hb⟩
   refine ⟨_, rfl, ?_⟩
   have HO428 := zM (Kd.R_lower ho0 (below_size zB1))
   replace BK411 := zM (zb BK411.1 hb)
   replace BK412 := zM (zb BK412.1 hb)
   replace BK422 := zM (zb BK422.1 hb)
   replace BK424 := zM (zb BK424.1 hb)
   replace HB := zM (below_step zB1 hb)
   (try clear ho0)
   refine hK.out _ _ ⟨(blk_cell BK411.1 0).trans rfl, (blk_cell BK411.1 1).trans rfl, (blk_cell BK411.1 2).trans rfl, (blk_cell BK422.1 0).trans rfl, (blk_cell BK422.1 1).trans rfl, (blk_cell BK422.1 2).trans rfl, (blk_cell BK422.1 3).trans rfl, (blk_cell BK422.1 4).trans rfl, (blk_cell BK424.1 0).trans rfl, (blk_cell BK424.1 1).trans rfl, (blk_cell BK424.1 2).trans rfl, (blk_cell BK424.1 3).trans rfl, (blk_cell BK424.1 4).trans rfl, ((HB.1.cell (World.block_lt_of_cell? w _ hw425_0)).trans hw425_0)⟩ (fun hHeld => ?_)
   clear hK K
   refine zNo ?_
   refine zPu 8 ?_
   refine zPu 9 ?_
   refine zPu 10 ?_
   refine zPu 11 ?_
   refine last_ (i := 12) (N := none) zq13_26 rfl rfl (one_of HT_.1 (by kernel_rfl)) (by decide) (fun K hK => ?_)
   obtain ⟨hs104, hfs104⟩ := zHs BK424.1 4
   have hns104_0 := NB411_424.1
   have hns104_1 := NB412_424.1
   have hns104_2 := NB422_424.1
   have hms104_0 := NB424_411.1
   have hms104_1 := NB424_412.1
   have hms104_2 := NB424_422.1
   refine skip_ (w1 := ?_) (by rfl) rfl ?_ ?_
   rotate_left
   ·go_simp
    rfl
   refine hK.out _ _ ?_
   clear hK K
   refine done_ (done_of HT_.1 (by kernel_rfl)) ?_
   have hcz105 := zc_5 (w := w103) BK422.1
   have hcz106 := zc_5 (w := w103) BK424.1
   obtain ⟨p432, q432, ad432, e432, hx432_0⟩ := zRd (Kd.at_int HR0.1 t423)
   obtain rfl : ad415 = ad432 := (by injection e432)
   have hn432_0 : ad415.block ≠ gb424 := Nat.ne_of_lt (Nat.lt_of_lt_of_le (by have := World.block_lt_of_cell? _ _ hx432_0; first | rwa [add_block] at this | exact this) GW424.1)
   replace hx432_0 := zHx HB.1 hx432_0
   replace hx432_0 := (cell_far (p := ⟨gb424, 4, none⟩) (by first | (rw [add_block]; exact hn432_0) | (show (Addr.add _ _).block ≠ _; rw [add_block]; exact hn432_0) | exact hn432_0) (.int .i64 t431)).trans hx432_0
   clear hn432_0
   have hcz107 := zc_5 (w := w103) BK412.1
   try go_wp2
   refine bodyPost_ret (results_ct rfl _ _ gb412 57 #[.int .i64 a2, .int .i64 a1_1, .int .i64 t423, .int .i64 (rd l0 t423), .int .i64 t431] (0, 0) _ rfl zPq Try.underlying57 rfl (by kernel_rfl)) rfl ?_
   exact ⟨zE, zB1⟩

end Go.Proofs.Ytpcgecacaemalaa.PFnExactRunTo
