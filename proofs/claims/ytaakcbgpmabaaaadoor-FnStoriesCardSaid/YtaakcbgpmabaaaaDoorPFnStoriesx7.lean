-- made by wip/tools/myprint.py out of the seat's translation
import Derived.Test.YtaakcbgpmabaaaaDoorPFnStoriesx0
import Derived.Test.YtaakcbgpmabaaaaDoorPFnStoriesx4
import Derived.Test.YtaakcbgpmabaaaaDoorPFnStoriesx5
import Derived.Test.YtaakcbgpmabaaaaDoorPFnStoriesx6
namespace Go.Proofs.YtaakcbgpmabaaaaDoor.PFnStories
open Go.RowKit Go.Proofs.YtaakcbgpmabaaaaDoorW.PrintWords Go.Proofs.YtaakcbgpmabaaaaDoorW.PrintLast Go.Proofs.YtaakcbgpmabaaaaDoorW.PrintMore
attribute [local go_sem] max2_int min2_int max_two min_two max_three min_three max_four min_four   -- for this text's walks alone
set_option linter.unusedVariables false
set_option linter.unusedSimpArgs false
set_option maxHeartbeats 8000000
set_option maxRecDepth 100000
abbrev zq7_0 : Array Bool := #[false, false, false, false, false, false, false, false, false, false]
abbrev zq7_7 : Array Bool := #[true, true, true, true, true, true, true, true, true, false]
abbrev zq7_8 : Array Bool := #[true, true, true, true, true, true, true, false, false, false]
abbrev zq7_9 : Array Bool := #[true, true, true, true, true, true, false, false, true, false]
abbrev zq7_13 : Array Bool := #[false, false, false, false, false, false, false, false, false, false, false, false, false]
abbrev zq7_26 : Array Bool := #[true, true, true, true, true, true, true, true, true, true, true, true, true]

/-! ### spec_EventOf: function 49 -/
def spec_EventOf.j0 : Nat → List Int → Int → Bool → List Int → Int → Int → Option (Int × Int × Int × Int × Int × Bool)
 | 0, _, _, _, _, _, _ => none
 | k + 1, x0, x2, x23, x363000, x363001, x363002 => if x23 = true then (some (0, 0, 0, 0, 0, false)) else (if 0 ≤ x363001 then (if x363001 < (x0.length : Int) then ((spec_Decode.f (rd x0 x363001)).bind fun bt367 => ((spec_Target.f bt367.1 bt367.2.1 bt367.2.2.1 bt367.2.2.2.1 bt367.2.2.2.2.1 x363000).bind fun t374 => (if t374 < 0 then (some (x2, x363001, t374, (-1), (-1), true)) else (if 0 ≤ t374 then (if t374 < (x0.length : Int) then ((spec_Work.f k x363000 x363001 x363002 bt367.1 bt367.2.1 bt367.2.2.1 bt367.2.2.2.1 bt367.2.2.2.2.1 (rd x0 t374)).bind fun bt377 => (if bt367.1 = 5 then (some (x2, x363001, t374, (-1), bt377.2.2.2, true)) else (some (x2, x363001, t374, rd x0 t374, bt377.2.2.2, true)))) else (none)) else (none))))) else (none)) else (none))
def spec_EventOf.f (k : Nat) (l0 : List Int) (l1_0 : List Int) (a1_1 : Int) (a1_2 : Int) (a2 : Int) : Option (Int × Int × Int × Int × Int × Bool) := (spec_l1Words.f k l0 24).bind fun t364 => (if t364 = true then ((spec_HartOk.f k l1_0 a1_1 a1_2).bind fun t365 => (if t365 = true then (spec_EventOf.j0 k l0 a2 (a1_2 != 0) l1_0 a1_1 a1_2) else (spec_EventOf.j0 k l0 a2 true l1_0 a1_1 a1_2))) else (spec_EventOf.j0 k l0 a2 true l1_0 a1_1 a1_2))
theorem spec_EventOf.mono_l : ∀ k, (∀ y0 y1 y2 y3 y4 y5, LeO (spec_EventOf.j0 k y0 y1 y2 y3 y4 y5) (spec_EventOf.j0 (k + 1) y0 y1 y2 y3 y4 y5))
 | 0 => fun _ _ _ _ _ _ r h => by simp [spec_EventOf.j0] at h
 | k + 1 => by
  have ih0 := spec_EventOf.mono_l k
  ·intros
   unfold spec_EventOf.j0
   have mo0 := @spec_HartOk.mono
   have mo1 := @spec_Work.mono
   have mo2 := @spec_l1Words.mono
   exact zL
theorem spec_EventOf.mono : ∀ a0 a1 a2 a3 a4 k, LeO (spec_EventOf.f k a0 a1 a2 a3 a4) (spec_EventOf.f (k + 1) a0 a1 a2 a3 a4) := by
 intro a0 a1 a2 a3 a4 k
 have ih0 := spec_EventOf.mono_l k
 unfold spec_EventOf.f
 have mo0 := @spec_HartOk.mono
 have mo1 := @spec_Work.mono
 have mo2 := @spec_l1Words.mono
 exact zL
def spec_EventOf.T4 : Bool × List (List Nat × List Nat) := (true, [([], []), ([], []), ([1], [1]), ([], []), ([], []), ([4], [4]), ([3, 5], [3, 5]), ([0, 2, 6], [0, 2, 6]), ([], []), ([8, 7, 6, 0, 1, 2, 3, 4, 5, 6, 7, 8], [7, 8])])
def spec_EventOf.B4 : List Nat := [0, 0, 2, 0, 0, 16, 56, 127, 0, 511]
theorem spec_EventOf.tab4 : rtab .any (opsOf Tryd.f49 4) = spec_EventOf.T4 := by kernel_rfl
theorem spec_EventOf.bits4 : waitsOk spec_EventOf.T4.2 spec_EventOf.B4 = true := by kernel_rfl
def spec_EventOf.T7 : Bool × List (List Nat × List Nat) := (true, [([], []), ([], []), ([], []), ([], []), ([3], [3]), ([2, 4], [2, 4]), ([5], [5]), ([0, 1, 6], [0, 1, 6]), ([7], [7]), ([8], [8]), ([8], [8]), ([0, 1, 2, 3, 4, 5, 6, 7, 8, 9, 10], []), ([11, 10, 7, 0, 1, 2, 3, 4, 5, 6, 7, 8, 9, 10], [10, 11])])
def spec_EventOf.B7 : List Nat := [0, 0, 0, 0, 8, 28, 60, 127, 255, 511, 511, 2047, 4095]
theorem spec_EventOf.tab7 : rtab .any (opsOf Tryd.f49 7) = spec_EventOf.T7 := by kernel_rfl
theorem spec_EventOf.bits7 : waitsOk spec_EventOf.T7.2 spec_EventOf.B7 = true := by kernel_rfl
theorem spec_EventOf.calls (k : Nat) (A0 : Option Addr) (c0 : Nat) (l0 : List Int) (A1_0 : Option Addr) (c1_0 : Nat) (l1_0 : List Int) (a1_1 : Int) (a1_2 : Int) (a2 : Int) (r1 : Int) (r2 : Int) (r3 : Int) (r4 : Int) (r5 : Int) (r6 : Bool) (w : World) (hr0 : Kd.C (Kd.int .i64) w A0 l0.length l0) (hc0 : l0.length ≤ c0) (hr1_0 : Kd.C (Kd.int .i64) w A1_0 l1_0.length l1_0) (hc1_0 : l1_0.length ≤ c1_0) (h : spec_EventOf.f k l0 l1_0 a1_1 a1_2 a2 = some (r1, r2, r3, r4, r5, r6)) :
  Calls Tryd.prog 49 #[.slice A0 l0.length c0, .agg #[.slice A1_0 l1_0.length c1_0, .int .i64 a1_1, .int .i64 a1_2], .int .i64 a2] w fun e w' => e = .returned (.tuple #[.agg #[.int .i64 r1, .int .i64 r2, .int .i64 r3, .int .i64 r4, .int .i64 r5], .bool r6]) ∧ Below w.heap.size w w' := by
 have hu80 := Tryd.underlying80
 have hu31 := Tryd.underlying31
 have hu93 := Tryd.underlying93
 have HR0 := zM hr0
 have HC0 := zM hc0
 clear hr0 hc0
 have HR1_0 := zM hr1_0
 have HC1_0 := zM hc1_0
 clear hr1_0 hc1_0
 have HB := zM (Below.refl w.heap.size w)
 unfold spec_EventOf.f at h
 have H := h
 clear h
 have HC4 := zM H
 clear H
 go_enter Tryd.func49, Tryd.ntmps49
 go_upto_region 1 with (first | ((with_reducible refine zBx 4 80 #[.slice A1_0 l1_0.length c1_0, .int .i64 a1_1, .int .i64 a1_2] ?_); intro gb362 hg w5 hbox hb; have BK362 := zM hbox; have GW362 := zM (zW hg (below_size zB3)); have GE362 := zM (zW hg (below_size zB3)); replace HB := zM (below_step zB3 hb); clear hb hbox hg) | ((with_reducible refine zBx 6 31 #[.int .i64 0, .int .i64 0, .int .i64 0, .int .i64 0, .int .i64 0] ?_); intro gb363 hg w6 hbox hb; have BK363 := zM hbox; have GW363 := zM (zW hg (below_size zB3)); have GE363 := zM (zW hg (below_size zB3)); replace HB := zM (below_step zB3 hb); have NB362_363 := zM ((zn BK362.1 hg : gb362 ≠ gb363)); have NB363_362 := zM ((zm BK362.1 hg : gb363 ≠ gb362)); replace BK362 := zM (zb BK362.1 hb); clear hb hbox hg))
 (try simp only [Act.put, List.setIfInBounds_toArray, List.set_cons_zero, List.set_cons_succ])
 go_cut [23] (fun v23 wc => ∃ (kq : Nat) (x23_3 : Bool), v23 = .bool x23_3 ∧ Aside0 (spec_EventOf.j0 kq l0 a2 x23_3 l1_0 a1_1 a1_2 = some (r1, r2, r3, r4, r5, r6)) ∧ Aside0 (kq ≤ k) ∧ Aside0 (wc.heap[gb362]? = some (.cells #[(.slice A1_0 l1_0.length c1_0), .int .i64 a1_1, .int .i64 a1_2] 80 (0, 0))) ∧ Aside0 (wc.heap[gb363]? = some (.cells #[.int .i64 0, .int .i64 0, .int .i64 0, .int .i64 0, .int .i64 0] 31 (0, 0))) ∧ Aside0 (Below w.heap.size w wc))
 case first =>
  have H := HC4.1
  clear HC4
  replace H := zO H
  obtain ⟨t364, A7, H⟩ := H
  by_cases c8 : t364 = true
  rotate_left
  ·replace c8 := Bool.eq_false_iff.mpr c8
   subst c8
   rw [if_neg zF] at H
   have H' := zM H
   clear H
   go_wp2_with (first | ((with_reducible refine gate_callee (f := 59) rfl ?_); refine goesL_ (some 12) rfl rfl Tryd.func59 (by kernel_rfl) rfl #[.slice A0 l0.length c0, .int .i64 24] rfl zT ?_; (with_reducible refine (spec_l1Words.calls k _ _ l0 24 false _ ?side1 ?side2 A7.1).mono ?_); (case side1 => exact zC (Kd.C_below HR0.1 HB.1)); (case side2 => exact HC0.1); rintro e w' ⟨rfl, ⟨nd, rfl⟩⟩; refine ⟨_, rfl, ?_⟩))
   go_meet
   case rel => exact ⟨_, (true), zJJ, H', ⟨by first | omega | exact Nat.le_refl _⟩, ⟨zK BK362.1⟩, ⟨zK BK363.1⟩, ⟨zB3⟩⟩
  subst c8
  rw [if_pos rfl] at H
  replace H := zO H
  obtain ⟨t365, A9, H⟩ := H
  by_cases c10 : t365 = true
  rotate_left
  ·replace c10 := Bool.eq_false_iff.mpr c10
   subst c10
   rw [if_neg zF] at H
   have H' := zM H
   clear H
   go_wp2_with (first | ((with_reducible refine gate_callee (f := 59) rfl ?_); refine goesL_ (some 12) rfl rfl Tryd.func59 (by kernel_rfl) rfl #[.slice A0 l0.length c0, .int .i64 24] rfl zT ?_; (with_reducible refine (spec_l1Words.calls k _ _ l0 24 true _ ?side1 ?side2 A7.1).mono ?_); (case side1 => exact zC (Kd.C_below HR0.1 HB.1)); (case side2 => exact HC0.1); rintro e w' ⟨rfl, ⟨nd, rfl⟩⟩; refine ⟨_, rfl, ?_⟩; have hnb15 := NB362_363.1; have hnc15 := NB363_362.1; have hcz16 := zc_3 (w := w6) BK362.1) | (go_at_call 47; (with_reducible refine (spec_HartOk.calls k _ _ l1_0 a1_1 a1_2 false _ ?side1 ?side2 A9.1).mono ?_); (case side1 => repeat (first | exact (Kd.C_below HR1_0.1 zB3) | (with_reducible refine Kd.C_alloc ?_ _) | (with_reducible refine Kd.C_drewN ?_ _) | (with_reducible refine Kd.C_drew ?_))); (case side2 => exact HC1_0.1); rintro e w17 ⟨rfl, hb⟩; replace BK362 := zM (zb BK362.1 hb); replace BK363 := zM (zb BK363.1 hb); replace HB := zM (below_step zB3 hb); clear hb))
   go_meet
   case rel => exact ⟨_, (true), zJJ, H', ⟨by first | omega | exact Nat.le_refl _⟩, ⟨zK BK362.1⟩, ⟨zK BK363.1⟩, ⟨zB3⟩⟩
  subst c10
  rw [if_pos rfl] at H
  have H' := zM H
  clear H
  go_wp2_with (first | ((with_reducible refine gate_callee (f := 59) rfl ?_); refine goesL_ (some 12) rfl rfl Tryd.func59 (by kernel_rfl) rfl #[.slice A0 l0.length c0, .int .i64 24] rfl zT ?_; (with_reducible refine (spec_l1Words.calls k _ _ l0 24 true _ ?side1 ?side2 A7.1).mono ?_); (case side1 => exact zC (Kd.C_below HR0.1 HB.1)); (case side2 => exact HC0.1); rintro e w' ⟨rfl, ⟨nd, rfl⟩⟩; refine ⟨_, rfl, ?_⟩; have hnb11 := NB362_363.1; have hnc11 := NB363_362.1; have hcz12 := zc_3 (w := w6) BK362.1) | (go_at_call 47; (with_reducible refine (spec_HartOk.calls k _ _ l1_0 a1_1 a1_2 true _ ?side1 ?side2 A9.1).mono ?_); (case side1 => repeat (first | exact (Kd.C_below HR1_0.1 zB3) | (with_reducible refine Kd.C_alloc ?_ _) | (with_reducible refine Kd.C_drewN ?_ _) | (with_reducible refine Kd.C_drew ?_))); (case side2 => exact HC1_0.1); rintro e w13 ⟨rfl, hb⟩; replace BK362 := zM (zb BK362.1 hb); replace BK363 := zM (zb BK363.1 hb); replace HB := zM (below_step zB3 hb); clear hb; have hcz14 := zc_3 (w := w13) BK362.1))
  go_meet
  case rel => exact ⟨_, ((a1_2 != 0)), zJJ, H', ⟨by first | omega | exact Nat.le_refl _⟩, ⟨zK BK362.1⟩, ⟨zK BK363.1⟩, ⟨zB3⟩⟩
 case rest =>
  clear HC4
  obtain ⟨kq, x23_3, rfl, HA, HJ3, BK362, BK363, HB⟩ := hcut
  cases kq with
  | zero => exact absurd HA.1 (by simp [spec_EventOf.j0])
  | succ kj3 =>
   have H := HA.1
   clear HA
   simp only [spec_EventOf.j0] at H
   by_cases c18 : x23_3 = true
   ·subst c18
    rw [if_pos rfl] at H
    simp only [Option.some.injEq, Prod.mk.injEq] at H
    obtain ⟨rfl, rfl, rfl, rfl, rfl, rfl⟩ := H
    have hnb19 := NB363_362.1
    have hnc19 := NB362_363.1
    have hcz20 := zc_5 (w := wc) BK363.1
    go_wp2
    refine bodyPost_ret (results_ct rfl _ _ gb363 31 #[.int .i64 0, .int .i64 0, .int .i64 0, .int .i64 0, .int .i64 0] (0, 0) _ rfl (by exact zp5 (zK BK363.1)) Tryd.underlying31 rfl (by kernel_rfl)) rfl ?_
    exact ⟨zE, zB3⟩
   replace c18 := Bool.eq_false_iff.mpr c18
   subst c18
   rw [if_neg zF] at H
   replace H := zIt H
   obtain ⟨c21b0, H⟩ := H
   replace H := zIt H
   obtain ⟨c22b0, H⟩ := H
   replace H := zO H
   obtain ⟨⟨t367, t368, t369, t370, t371, t372⟩, A23, H⟩ := H
   try dsimp only at H
   replace H := zO H
   obtain ⟨t374, A24, H⟩ := H
   by_cases c25 : t374 < 0
   ·rw [if_pos c25] at H
    have c25b0 := decide_eq_true c25
    clear c25
    simp only [Option.some.injEq, Prod.mk.injEq] at H
    obtain ⟨rfl, rfl, rfl, rfl, rfl, rfl⟩ := H
    have hnb26 := NB362_363.1
    have hnc26 := NB363_362.1
    have hcz27 := zc_3 (w := wc) BK362.1
    obtain ⟨p366, q366, ad366, e366, hx366_0⟩ := zRd (Kd.at_int HR0.1 a1_1)
    cases e366
    replace hx366_0 := zHx HB.1 hx366_0
    try go_wp2_with (first | ((with_reducible refine gate_callee (f := 61) rfl ?_); refine goesL_ (some 31) rfl rfl Tryd.func61 (by kernel_rfl) rfl #[.int .i64 (rd l0 a1_1)] rfl zT ?_; (with_reducible refine (spec_Decode.calls (rd l0 a1_1) t367 t368 t369 t370 t371 t372 _ A23.1).mono ?_); rintro e w28 ⟨rfl, hb⟩; refine ⟨_, rfl, ?_⟩; replace BK362 := zM (zb BK362.1 hb); replace BK363 := zM (zb BK363.1 hb); replace HB := zM (below_step zB3 hb); clear hb) | ((with_reducible refine zBx 8 93 #[.int .i64 0, .int .i64 0, .int .i64 0, .int .i64 0, .int .i64 0] ?_); intro gb373 hg w29 hbox hb; have BK373 := zM hbox; have GW373 := zM (zW hg (below_size zB3)); have GE373 := zM (zW hg (below_size zB3)); replace HB := zM (below_step zB3 hb); have NB362_373 := zM ((zn BK362.1 hg : gb362 ≠ gb373)); have NB373_362 := zM ((zm BK362.1 hg : gb373 ≠ gb362)); replace BK362 := zM (zb BK362.1 hb); have NB363_373 := zM ((zn BK363.1 hg : gb363 ≠ gb373)); have NB373_363 := zM ((zm BK363.1 hg : gb373 ≠ gb363)); replace BK363 := zM (zb BK363.1 hb); clear hb hbox hg; have hnb30 := NB373_362.1; have hnc30 := NB362_373.1; have hnb31 := NB373_363.1; have hnc31 := NB363_373.1; have hcz32 := zc_5 (w := w29) BK373.1))
    generalize hw_ : (((((w29.setCell ⟨gb373, 0, none⟩ (.int .i64 t367)).setCell ⟨gb373, 1, none⟩ (.int .i64 t368)).setCell ⟨gb373, 2, none⟩ (.int .i64 t369)).setCell ⟨gb373, 3, none⟩ (.int .i64 t370)).setCell ⟨gb373, 4, none⟩ (.int .i64 t371)) = w33
    have n0_ : Aside0 (w33.heap[gb362]? = some (.cells #[.slice A1_0 l1_0.length c1_0, .int .i64 a1_1, .int .i64 a1_2] 80 (0, 0))) := ⟨by rw [← hw_]; exact zPq⟩
    have n1_ : Aside0 (w33.heap[gb363]? = some (.cells #[.int .i64 0, .int .i64 0, .int .i64 0, .int .i64 0, .int .i64 0] 31 (0, 0))) := ⟨by rw [← hw_]; exact zPq⟩
    have n2_ : Aside0 (w33.heap[gb373]? = some (.cells #[.int .i64 t367, .int .i64 t368, .int .i64 t369, .int .i64 t370, .int .i64 t371] 93 (0, 0))) := ⟨by rw [← hw_]; exact zp5 (zK BK373.1)⟩
    have n3_ : Aside0 (Below w.heap.size w w33) := ⟨by rw [← hw_]; exact zB3⟩
    (try clear BK362)
    (try clear BK363)
    (try clear BK373)
    (try clear HB)
    clear hw_
    have BK362 := n0_
    have BK363 := n1_
    have BK373 := n2_
    have HB := n3_
    clear n0_ n1_ n2_ n3_
    replace BK362 := zM (blk_drew BK362.1)
    replace BK363 := zM (blk_drew BK363.1)
    replace BK373 := zM (blk_drew BK373.1)
    replace HB := zM (below_drew1 HB.1)
    refine start_ (n := 10) (S := fun w' => w'.cell? ⟨gb362, 0, none⟩ = some (.slice A1_0 l1_0.length c1_0) ∧ w'.cell? ⟨gb362, 1, none⟩ = some (.int .i64 a1_1) ∧ w'.cell? ⟨gb362, 2, none⟩ = some (.int .i64 a1_2) ∧ w'.cell? ⟨gb373, 0, none⟩ = some (.int .i64 t367) ∧ w'.cell? ⟨gb373, 1, none⟩ = some (.int .i64 t368) ∧ w'.cell? ⟨gb373, 2, none⟩ = some (.int .i64 t369) ∧ w'.cell? ⟨gb373, 3, none⟩ = some (.int .i64 t370) ∧ w'.cell? ⟨gb373, 4, none⟩ = some (.int .i64 t371)) (ds := []) zq7_0 (by kernel_rfl) rfl rfl ⟨(blk_cell BK362.1 0).trans rfl, (blk_cell BK362.1 1).trans rfl, (blk_cell BK362.1 2).trans rfl, (blk_cell BK373.1 0).trans rfl, (blk_cell BK373.1 1).trans rfl, (blk_cell BK373.1 2).trans rfl, (blk_cell BK373.1 3).trans rfl, (blk_cell BK373.1 4).trans rfl⟩ (fun hHeld => ?_); refine with_tabW spec_EventOf.tab4 spec_EventOf.bits4 (fun HT_ HW_ => ?_)
    generalize w33.drew = w34 at BK362 BK363 BK373 HB hHeld ⊢
    refine zPu 0 ?_
    refine zPu 1 ?_
    refine zPu 4 ?_
    refine zTk8 2 hHeld ?_
    refine zTk8 3 hHeld ?_
    refine zTk8 5 hHeld ?_
    refine join_ (σ := Nat) 1 zq7_7 (fun s_ => [(40, .int .i64 t374), (10, .pointer (some ⟨s_, 0, none⟩)), (41, .agg #[.int .i64 a2, .int .i64 a1_1, .int .i64 t374, .int .i64 (-1), .int .i64 (-1)])]) (fun s_ w' => (w'.cell? ⟨gb362, 0, none⟩ = some (.slice A1_0 l1_0.length c1_0) ∧ w'.cell? ⟨gb362, 1, none⟩ = some (.int .i64 a1_1) ∧ w'.cell? ⟨gb362, 2, none⟩ = some (.int .i64 a1_2) ∧ w'.cell? ⟨gb373, 0, none⟩ = some (.int .i64 t367) ∧ w'.cell? ⟨gb373, 1, none⟩ = some (.int .i64 t368) ∧ w'.cell? ⟨gb373, 2, none⟩ = some (.int .i64 t369) ∧ w'.cell? ⟨gb373, 3, none⟩ = some (.int .i64 t370) ∧ w'.cell? ⟨gb373, 4, none⟩ = some (.int .i64 t371)) ∧ (w'.heap[gb362]? = some (.cells #[.slice A1_0 l1_0.length c1_0, .int .i64 a1_1, .int .i64 a1_2] 80 (0, 0))) ∧ (w'.heap[gb363]? = some (.cells #[.int .i64 0, .int .i64 0, .int .i64 0, .int .i64 0, .int .i64 0] 31 (0, 0))) ∧ (w'.heap[gb373]? = some (.cells #[.int .i64 t367, .int .i64 t368, .int .i64 t369, .int .i64 t370, .int .i64 t371] 93 (0, 0))) ∧ (w'.heap[s_]? = some (.cells #[.int .i64 0, .int .i64 0, .int .i64 0, .int .i64 0, .int .i64 0] 31 (0, 0))) ∧ (w.heap.size ≤ s_) ∧ (w.heap.size ≤ s_) ∧ (gb362 ≠ s_) ∧ (s_ ≠ gb362) ∧ (gb363 ≠ s_) ∧ (s_ ≠ gb363) ∧ (gb373 ≠ s_) ∧ (s_ ≠ gb373) ∧ (Below w.heap.size w w')) ?_ ?_
    rotate_left
    ·intro hCont
     refine two_ (i := 6) (j := 8) (Ni := some 40) (Nj := some 10) zq7_8 zq7_9 rfl rfl rfl rfl (two_of HT_.1 (by kernel_rfl)) (by decide) (by decide) (fun K hK => ?_) (fun K hK => ?_)
     ·refine goes_ Tryd.func62 (by kernel_rfl) rfl #[.agg #[.int .i64 t367, .int .i64 t368, .int .i64 t369, .int .i64 t370, .int .i64 t371], .slice A1_0 l1_0.length c1_0] (by rfl) rfl rfl zT ?_
      with_reducible refine (spec_Target.calls t367 t368 t369 t370 t371 _ _ l1_0 t374 _ ?side1 ?side2 A24.1).mono ?_
      (case side1 => exact zC (Kd.C_below HR1_0.1 HB.1))
      (case side2 => exact HC1_0.1)
      rintro e w35 ⟨rfl, hb⟩
      refine ⟨_, rfl, ?_⟩
      replace BK362 := zM (zb BK362.1 hb)
      replace BK363 := zM (zb BK363.1 hb)
      replace BK373 := zM (zb BK373.1 hb)
      replace HB := zM (below_step zB3 hb)
      refine hK.out _ _ zCs fun hHeld => ?_
      clear hK K
      refine zNo ?_
      refine zPu 7 ?_
      refine zOn 8 (some 10) fun K hK => ?_
      refine zBs 10 31 #[.int .i64 0, .int .i64 0, .int .i64 0, .int .i64 0, .int .i64 0] ?_
      intro gb375 hg w36 hbox hb
      replace BK375 := zM hbox
      replace GW375 := zM (zW hg (below_size zB3))
      replace GE375 := zM (zW hg (below_size zB3))
      replace HB := zM (below_step zB3 hb)
      replace NB362_375 := zM ((zn BK362.1 hg : gb362 ≠ gb375))
      replace NB375_362 := zM ((zm BK362.1 hg : gb375 ≠ gb362))
      replace BK362 := zM (zb BK362.1 hb)
      replace NB363_375 := zM ((zn BK363.1 hg : gb363 ≠ gb375))
      replace NB375_363 := zM ((zm BK363.1 hg : gb375 ≠ gb363))
      replace BK363 := zM (zb BK363.1 hb)
      replace NB373_375 := zM ((zn BK373.1 hg : gb373 ≠ gb375))
      replace NB375_373 := zM ((zm BK373.1 hg : gb375 ≠ gb373))
      replace BK373 := zM (zb BK373.1 hb)
      refine hK.out _ _ zCs fun hHeld => ?_
      clear hK K
      refine zNo ?_
      exact norm_ zNr (hCont (gb375) _ ⟨hHeld, (zK BK362.1), (zK BK363.1), (zK BK373.1), (zK BK375.1), GW375.1, GE375.1, NB362_375.1, NB375_362.1, NB363_375.1, NB375_363.1, NB373_375.1, NB375_373.1, zB3⟩)
     ·refine zBs 10 31 #[.int .i64 0, .int .i64 0, .int .i64 0, .int .i64 0, .int .i64 0] ?_
      intro gb375 hg w35 hbox hb
      replace BK375 := zM hbox
      replace GW375 := zM (zW hg (below_size zB3))
      replace GE375 := zM (zW hg (below_size zB3))
      replace HB := zM (below_step zB3 hb)
      replace NB362_375 := zM ((zn BK362.1 hg : gb362 ≠ gb375))
      replace NB375_362 := zM ((zm BK362.1 hg : gb375 ≠ gb362))
      replace BK362 := zM (zb BK362.1 hb)
      replace NB363_375 := zM ((zn BK363.1 hg : gb363 ≠ gb375))
      replace NB375_363 := zM ((zm BK363.1 hg : gb375 ≠ gb363))
      replace BK363 := zM (zb BK363.1 hb)
      replace NB373_375 := zM ((zn BK373.1 hg : gb373 ≠ gb375))
      replace NB375_373 := zM ((zm BK373.1 hg : gb375 ≠ gb373))
      replace BK373 := zM (zb BK373.1 hb)
      refine hK.out _ _ zCs fun hHeld => ?_
      clear hK K
      refine zNo ?_
      refine zOn 6 (some 40) fun K hK => ?_
      refine goes_ Tryd.func62 (by kernel_rfl) rfl #[.agg #[.int .i64 t367, .int .i64 t368, .int .i64 t369, .int .i64 t370, .int .i64 t371], .slice A1_0 l1_0.length c1_0] (by rfl) rfl rfl zT ?_
      with_reducible refine (spec_Target.calls t367 t368 t369 t370 t371 _ _ l1_0 t374 _ ?side1 ?side2 A24.1).mono ?_
      (case side1 => exact zC (Kd.C_below HR1_0.1 HB.1))
      (case side2 => exact HC1_0.1)
      rintro e w36 ⟨rfl, hb⟩
      refine ⟨_, rfl, ?_⟩
      replace BK362 := zM (zb BK362.1 hb)
      replace BK363 := zM (zb BK363.1 hb)
      replace BK373 := zM (zb BK373.1 hb)
      replace BK375 := zM (zb BK375.1 hb)
      replace HB := zM (below_step zB3 hb)
      refine hK.out _ _ zCs fun hHeld => ?_
      clear hK K
      refine zNo ?_
      refine zPu 7 ?_
      exact norm_ zNr (hCont (gb375) _ ⟨hHeld, (zK BK362.1), (zK BK363.1), (zK BK373.1), (zK BK375.1), GW375.1, GE375.1, NB362_375.1, NB375_362.1, NB363_375.1, NB375_363.1, NB373_375.1, NB375_373.1, zB3⟩)
    rintro gb375 w37 ⟨hS_, h0_, h1_, h2_, h3_, h4_, h5_, h6_, h7_, h8_, h9_, h10_, h11_, h12_⟩
    replace BK362 := zM h0_
    replace BK363 := zM h1_
    replace BK373 := zM h2_
    replace BK375 := zM h3_
    replace GW375 := zM h4_
    replace GE375 := zM h5_
    replace NB362_375 := zM h6_
    replace NB375_362 := zM h7_
    replace NB363_375 := zM h8_
    replace NB375_363 := zM h9_
    replace NB373_375 := zM h10_
    replace NB375_373 := zM h11_
    replace HB := zM h12_
    have hHeld := hS_
    refine zNp ?_
    refine zOn 9 none fun K hK => ?_
    obtain ⟨hs38, hfs38⟩ := zHs BK375.1 0
    have hns38_0 := NB362_375.1
    have hns38_1 := NB363_375.1
    have hns38_2 := NB373_375.1
    have hms38_0 := NB375_362.1
    have hms38_1 := NB375_363.1
    have hms38_2 := NB375_373.1
    obtain ⟨hs39, hfs39⟩ := zHs BK375.1 1
    have hns39_0 := NB362_375.1
    have hns39_1 := NB363_375.1
    have hns39_2 := NB373_375.1
    have hms39_0 := NB375_362.1
    have hms39_1 := NB375_363.1
    have hms39_2 := NB375_373.1
    obtain ⟨hs40, hfs40⟩ := zHs BK375.1 2
    have hns40_0 := NB362_375.1
    have hns40_1 := NB363_375.1
    have hns40_2 := NB373_375.1
    have hms40_0 := NB375_362.1
    have hms40_1 := NB375_363.1
    have hms40_2 := NB375_373.1
    obtain ⟨hs41, hfs41⟩ := zHs BK375.1 3
    have hns41_0 := NB362_375.1
    have hns41_1 := NB363_375.1
    have hns41_2 := NB373_375.1
    have hms41_0 := NB375_362.1
    have hms41_1 := NB375_363.1
    have hms41_2 := NB375_373.1
    obtain ⟨hs42, hfs42⟩ := zHs BK375.1 4
    have hns42_0 := NB362_375.1
    have hns42_1 := NB363_375.1
    have hns42_2 := NB373_375.1
    have hms42_0 := NB375_362.1
    have hms42_1 := NB375_363.1
    have hms42_2 := NB375_373.1
    refine skip_ (w1 := ?_) (by rfl) rfl ?_ ?_
    rotate_left
    ·go_simp
     rfl
    refine hK.out _ _ zCs fun hHeld => ?_
    clear hK K
    refine done_ (done_of HT_.1 (by kernel_rfl)) ?_
    have hnb43 := NB375_362.1
    have hnc43 := NB362_375.1
    have hnb44 := NB375_363.1
    have hnc44 := NB363_375.1
    have hnb45 := NB375_373.1
    have hnc45 := NB373_375.1
    have hcz46 := zc_5 (w := w37) BK375.1
    have hcz47 := zc_5 (w := w37) BK363.1
    try go_wp2
    refine bodyPost_ret (results_ct rfl _ _ gb363 31 #[.int .i64 a2, .int .i64 a1_1, .int .i64 t374, .int .i64 (-1), .int .i64 (-1)] (0, 0) _ rfl zPq Tryd.underlying31 rfl (by kernel_rfl)) rfl ?_
    exact ⟨zE, zB3⟩
   rw [if_neg c25] at H
   have c25b0 := decide_eq_false c25
   clear c25
   replace H := zIt H
   obtain ⟨c48b0, H⟩ := H
   replace H := zIt H
   obtain ⟨c49b0, H⟩ := H
   replace H := zO H
   obtain ⟨⟨t377, t380, t381, t382⟩, A50, H⟩ := H
   try dsimp only at H
   by_cases c51 : t367 = 5
   ·rw [if_pos c51] at H
    have c51b0 : (t367 == 5) = true := beq_iff_eq.mpr c51
    have c51b1 : (t367 != 5) = false := bne_eq_false_iff_eq.mpr c51
    clear c51
    simp only [Option.some.injEq, Prod.mk.injEq] at H
    obtain ⟨rfl, rfl, rfl, rfl, rfl, rfl⟩ := H
    have hnb52 := NB362_363.1
    have hnc52 := NB363_362.1
    have hcz53 := zc_3 (w := wc) BK362.1
    obtain ⟨p366, q366, ad366, e366, hx366_0⟩ := zRd (Kd.at_int HR0.1 a1_1)
    cases e366
    replace hx366_0 := zHx HB.1 hx366_0
    try go_wp2_with (first | ((with_reducible refine gate_callee (f := 61) rfl ?_); refine goesL_ (some 31) rfl rfl Tryd.func61 (by kernel_rfl) rfl #[.int .i64 (rd l0 a1_1)] rfl zT ?_; (with_reducible refine (spec_Decode.calls (rd l0 a1_1) t367 t368 t369 t370 t371 t372 _ A23.1).mono ?_); rintro e w54 ⟨rfl, hb⟩; refine ⟨_, rfl, ?_⟩; replace BK362 := zM (zb BK362.1 hb); replace BK363 := zM (zb BK363.1 hb); replace HB := zM (below_step zB3 hb); clear hb) | ((with_reducible refine zBx 8 93 #[.int .i64 0, .int .i64 0, .int .i64 0, .int .i64 0, .int .i64 0] ?_); intro gb373 hg w55 hbox hb; have BK373 := zM hbox; have GW373 := zM (zW hg (below_size zB3)); have GE373 := zM (zW hg (below_size zB3)); replace HB := zM (below_step zB3 hb); have NB362_373 := zM ((zn BK362.1 hg : gb362 ≠ gb373)); have NB373_362 := zM ((zm BK362.1 hg : gb373 ≠ gb362)); replace BK362 := zM (zb BK362.1 hb); have NB363_373 := zM ((zn BK363.1 hg : gb363 ≠ gb373)); have NB373_363 := zM ((zm BK363.1 hg : gb373 ≠ gb363)); replace BK363 := zM (zb BK363.1 hb); clear hb hbox hg; have hnb56 := NB373_362.1; have hnc56 := NB362_373.1; have hnb57 := NB373_363.1; have hnc57 := NB363_373.1; have hcz58 := zc_5 (w := w55) BK373.1))
    generalize hw_ : (((((w55.setCell ⟨gb373, 0, none⟩ (.int .i64 t367)).setCell ⟨gb373, 1, none⟩ (.int .i64 t368)).setCell ⟨gb373, 2, none⟩ (.int .i64 t369)).setCell ⟨gb373, 3, none⟩ (.int .i64 t370)).setCell ⟨gb373, 4, none⟩ (.int .i64 t371)) = w59
    have n0_ : Aside0 (w59.heap[gb362]? = some (.cells #[.slice A1_0 l1_0.length c1_0, .int .i64 a1_1, .int .i64 a1_2] 80 (0, 0))) := ⟨by rw [← hw_]; exact zPq⟩
    have n1_ : Aside0 (w59.heap[gb363]? = some (.cells #[.int .i64 0, .int .i64 0, .int .i64 0, .int .i64 0, .int .i64 0] 31 (0, 0))) := ⟨by rw [← hw_]; exact zPq⟩
    have n2_ : Aside0 (w59.heap[gb373]? = some (.cells #[.int .i64 t367, .int .i64 t368, .int .i64 t369, .int .i64 t370, .int .i64 t371] 93 (0, 0))) := ⟨by rw [← hw_]; exact zp5 (zK BK373.1)⟩
    have n3_ : Aside0 (Below w.heap.size w w59) := ⟨by rw [← hw_]; exact zB3⟩
    (try clear BK362)
    (try clear BK363)
    (try clear BK373)
    (try clear HB)
    clear hw_
    have BK362 := n0_
    have BK363 := n1_
    have BK373 := n2_
    have HB := n3_
    clear n0_ n1_ n2_ n3_
    replace BK362 := zM (blk_drew BK362.1)
    replace BK363 := zM (blk_drew BK363.1)
    replace BK373 := zM (blk_drew BK373.1)
    replace HB := zM (below_drew1 HB.1)
    refine start_ (n := 10) (S := fun w' => w'.cell? ⟨gb362, 0, none⟩ = some (.slice A1_0 l1_0.length c1_0) ∧ w'.cell? ⟨gb362, 1, none⟩ = some (.int .i64 a1_1) ∧ w'.cell? ⟨gb362, 2, none⟩ = some (.int .i64 a1_2) ∧ w'.cell? ⟨gb373, 0, none⟩ = some (.int .i64 t367) ∧ w'.cell? ⟨gb373, 1, none⟩ = some (.int .i64 t368) ∧ w'.cell? ⟨gb373, 2, none⟩ = some (.int .i64 t369) ∧ w'.cell? ⟨gb373, 3, none⟩ = some (.int .i64 t370) ∧ w'.cell? ⟨gb373, 4, none⟩ = some (.int .i64 t371)) (ds := []) zq7_0 (by kernel_rfl) rfl rfl ⟨(blk_cell BK362.1 0).trans rfl, (blk_cell BK362.1 1).trans rfl, (blk_cell BK362.1 2).trans rfl, (blk_cell BK373.1 0).trans rfl, (blk_cell BK373.1 1).trans rfl, (blk_cell BK373.1 2).trans rfl, (blk_cell BK373.1 3).trans rfl, (blk_cell BK373.1 4).trans rfl⟩ (fun hHeld => ?_); refine with_tabW spec_EventOf.tab4 spec_EventOf.bits4 (fun HT_ HW_ => ?_)
    generalize w59.drew = w60 at BK362 BK363 BK373 HB hHeld ⊢
    refine zPu 0 ?_
    refine zPu 1 ?_
    refine zPu 4 ?_
    refine zTk8 2 hHeld ?_
    refine zTk8 3 hHeld ?_
    refine zTk8 5 hHeld ?_
    refine join_ (σ := Nat) 1 zq7_7 (fun s_ => [(40, .int .i64 t374), (10, .pointer (some ⟨s_, 0, none⟩)), (41, .agg #[.int .i64 a2, .int .i64 a1_1, .int .i64 t374, .int .i64 (-1), .int .i64 (-1)])]) (fun s_ w' => (w'.cell? ⟨gb362, 0, none⟩ = some (.slice A1_0 l1_0.length c1_0) ∧ w'.cell? ⟨gb362, 1, none⟩ = some (.int .i64 a1_1) ∧ w'.cell? ⟨gb362, 2, none⟩ = some (.int .i64 a1_2) ∧ w'.cell? ⟨gb373, 0, none⟩ = some (.int .i64 t367) ∧ w'.cell? ⟨gb373, 1, none⟩ = some (.int .i64 t368) ∧ w'.cell? ⟨gb373, 2, none⟩ = some (.int .i64 t369) ∧ w'.cell? ⟨gb373, 3, none⟩ = some (.int .i64 t370) ∧ w'.cell? ⟨gb373, 4, none⟩ = some (.int .i64 t371)) ∧ (w'.heap[gb362]? = some (.cells #[.slice A1_0 l1_0.length c1_0, .int .i64 a1_1, .int .i64 a1_2] 80 (0, 0))) ∧ (w'.heap[gb363]? = some (.cells #[.int .i64 0, .int .i64 0, .int .i64 0, .int .i64 0, .int .i64 0] 31 (0, 0))) ∧ (w'.heap[gb373]? = some (.cells #[.int .i64 t367, .int .i64 t368, .int .i64 t369, .int .i64 t370, .int .i64 t371] 93 (0, 0))) ∧ (w'.heap[s_]? = some (.cells #[.int .i64 0, .int .i64 0, .int .i64 0, .int .i64 0, .int .i64 0] 31 (0, 0))) ∧ (w.heap.size ≤ s_) ∧ (w.heap.size ≤ s_) ∧ (gb362 ≠ s_) ∧ (s_ ≠ gb362) ∧ (gb363 ≠ s_) ∧ (s_ ≠ gb363) ∧ (gb373 ≠ s_) ∧ (s_ ≠ gb373) ∧ (Below w.heap.size w w')) ?_ ?_
    rotate_left
    ·intro hCont
     refine two_ (i := 6) (j := 8) (Ni := some 40) (Nj := some 10) zq7_8 zq7_9 rfl rfl rfl rfl (two_of HT_.1 (by kernel_rfl)) (by decide) (by decide) (fun K hK => ?_) (fun K hK => ?_)
     ·refine goes_ Tryd.func62 (by kernel_rfl) rfl #[.agg #[.int .i64 t367, .int .i64 t368, .int .i64 t369, .int .i64 t370, .int .i64 t371], .slice A1_0 l1_0.length c1_0] (by rfl) rfl rfl zT ?_
      with_reducible refine (spec_Target.calls t367 t368 t369 t370 t371 _ _ l1_0 t374 _ ?side1 ?side2 A24.1).mono ?_
      (case side1 => exact zC (Kd.C_below HR1_0.1 HB.1))
      (case side2 => exact HC1_0.1)
      rintro e w61 ⟨rfl, hb⟩
      refine ⟨_, rfl, ?_⟩
      replace BK362 := zM (zb BK362.1 hb)
      replace BK363 := zM (zb BK363.1 hb)
      replace BK373 := zM (zb BK373.1 hb)
      replace HB := zM (below_step zB3 hb)
      refine hK.out _ _ zCs fun hHeld => ?_
      clear hK K
      refine zNo ?_
      refine zPu 7 ?_
      refine zOn 8 (some 10) fun K hK => ?_
      refine zBs 10 31 #[.int .i64 0, .int .i64 0, .int .i64 0, .int .i64 0, .int .i64 0] ?_
      intro gb375 hg w62 hbox hb
      replace BK375 := zM hbox
      replace GW375 := zM (zW hg (below_size zB3))
      replace GE375 := zM (zW hg (below_size zB3))
      replace HB := zM (below_step zB3 hb)
      replace NB362_375 := zM ((zn BK362.1 hg : gb362 ≠ gb375))
      replace NB375_362 := zM ((zm BK362.1 hg : gb375 ≠ gb362))
      replace BK362 := zM (zb BK362.1 hb)
      replace NB363_375 := zM ((zn BK363.1 hg : gb363 ≠ gb375))
      replace NB375_363 := zM ((zm BK363.1 hg : gb375 ≠ gb363))
      replace BK363 := zM (zb BK363.1 hb)
      replace NB373_375 := zM ((zn BK373.1 hg : gb373 ≠ gb375))
      replace NB375_373 := zM ((zm BK373.1 hg : gb375 ≠ gb373))
      replace BK373 := zM (zb BK373.1 hb)
      refine hK.out _ _ zCs fun hHeld => ?_
      clear hK K
      refine zNo ?_
      exact norm_ zNr (hCont (gb375) _ ⟨hHeld, (zK BK362.1), (zK BK363.1), (zK BK373.1), (zK BK375.1), GW375.1, GE375.1, NB362_375.1, NB375_362.1, NB363_375.1, NB375_363.1, NB373_375.1, NB375_373.1, zB3⟩)
     ·refine zBs 10 31 #[.int .i64 0, .int .i64 0, .int .i64 0, .int .i64 0, .int .i64 0] ?_
      intro gb375 hg w61 hbox hb
      replace BK375 := zM hbox
      replace GW375 := zM (zW hg (below_size zB3))
      replace GE375 := zM (zW hg (below_size zB3))
      replace HB := zM (below_step zB3 hb)
      replace NB362_375 := zM ((zn BK362.1 hg : gb362 ≠ gb375))
      replace NB375_362 := zM ((zm BK362.1 hg : gb375 ≠ gb362))
      replace BK362 := zM (zb BK362.1 hb)
      replace NB363_375 := zM ((zn BK363.1 hg : gb363 ≠ gb375))
      replace NB375_363 := zM ((zm BK363.1 hg : gb375 ≠ gb363))
      replace BK363 := zM (zb BK363.1 hb)
      replace NB373_375 := zM ((zn BK373.1 hg : gb373 ≠ gb375))
      replace NB375_373 := zM ((zm BK373.1 hg : gb375 ≠ gb373))
      replace BK373 := zM (zb BK373.1 hb)
      refine hK.out _ _ zCs fun hHeld => ?_
      clear hK K
      refine zNo ?_
      refine zOn 6 (some 40) fun K hK => ?_
      refine goes_ Tryd.func62 (by kernel_rfl) rfl #[.agg #[.int .i64 t367, .int .i64 t368, .int .i64 t369, .int .i64 t370, .int .i64 t371], .slice A1_0 l1_0.length c1_0] (by rfl) rfl rfl zT ?_
      with_reducible refine (spec_Target.calls t367 t368 t369 t370 t371 _ _ l1_0 t374 _ ?side1 ?side2 A24.1).mono ?_
      (case side1 => exact zC (Kd.C_below HR1_0.1 HB.1))
      (case side2 => exact HC1_0.1)
      rintro e w62 ⟨rfl, hb⟩
      refine ⟨_, rfl, ?_⟩
      replace BK362 := zM (zb BK362.1 hb)
      replace BK363 := zM (zb BK363.1 hb)
      replace BK373 := zM (zb BK373.1 hb)
      replace BK375 := zM (zb BK375.1 hb)
      replace HB := zM (below_step zB3 hb)
      refine hK.out _ _ zCs fun hHeld => ?_
      clear hK K
      refine zNo ?_
      refine zPu 7 ?_
      exact norm_ zNr (hCont (gb375) _ ⟨hHeld, (zK BK362.1), (zK BK363.1), (zK BK373.1), (zK BK375.1), GW375.1, GE375.1, NB362_375.1, NB375_362.1, NB363_375.1, NB375_363.1, NB373_375.1, NB375_373.1, zB3⟩)
    rintro gb375 w63 ⟨hS_, h0_, h1_, h2_, h3_, h4_, h5_, h6_, h7_, h8_, h9_, h10_, h11_, h12_⟩
    replace BK362 := zM h0_
    replace BK363 := zM h1_
    replace BK373 := zM h2_
    replace BK375 := zM h3_
    replace GW375 := zM h4_
    replace GE375 := zM h5_
    replace NB362_375 := zM h6_
    replace NB375_362 := zM h7_
    replace NB363_375 := zM h8_
    replace NB375_363 := zM h9_
    replace NB373_375 := zM h10_
    replace NB375_373 := zM h11_
    replace HB := zM h12_
    have hHeld := hS_
    refine zNp ?_
    refine zOn 9 none fun K hK => ?_
    obtain ⟨hs64, hfs64⟩ := zHs BK375.1 0
    have hns64_0 := NB362_375.1
    have hns64_1 := NB363_375.1
    have hns64_2 := NB373_375.1
    have hms64_0 := NB375_362.1
    have hms64_1 := NB375_363.1
    have hms64_2 := NB375_373.1
    obtain ⟨hs65, hfs65⟩ := zHs BK375.1 1
    have hns65_0 := NB362_375.1
    have hns65_1 := NB363_375.1
    have hns65_2 := NB373_375.1
    have hms65_0 := NB375_362.1
    have hms65_1 := NB375_363.1
    have hms65_2 := NB375_373.1
    obtain ⟨hs66, hfs66⟩ := zHs BK375.1 2
    have hns66_0 := NB362_375.1
    have hns66_1 := NB363_375.1
    have hns66_2 := NB373_375.1
    have hms66_0 := NB375_362.1
    have hms66_1 := NB375_363.1
    have hms66_2 := NB375_373.1
    obtain ⟨hs67, hfs67⟩ := zHs BK375.1 3
    have hns67_0 := NB362_375.1
    have hns67_1 := NB363_375.1
    have hns67_2 := NB373_375.1
    have hms67_0 := NB375_362.1
    have hms67_1 := NB375_363.1
    have hms67_2 := NB375_373.1
    obtain ⟨hs68, hfs68⟩ := zHs BK375.1 4
    have hns68_0 := NB362_375.1
    have hns68_1 := NB363_375.1
    have hns68_2 := NB373_375.1
    have hms68_0 := NB375_362.1
    have hms68_1 := NB375_363.1
    have hms68_2 := NB375_373.1
    refine skip_ (w1 := ?_) (by rfl) rfl ?_ ?_
    rotate_left
    ·go_simp
     rfl
    refine hK.out _ _ zCs fun hHeld => ?_
    clear hK K
    refine done_ (done_of HT_.1 (by kernel_rfl)) ?_
    have hnb69 := NB375_362.1
    have hnc69 := NB362_375.1
    have hnb70 := NB375_363.1
    have hnc70 := NB363_375.1
    have hnb71 := NB375_373.1
    have hnc71 := NB373_375.1
    have hcz72 := zc_5 (w := w63) BK375.1
    try go_wp2
    generalize hw_ : (((((w63.setCell ⟨gb375, 0, none⟩ (.int .i64 a2)).setCell ⟨gb375, 1, none⟩ (.int .i64 a1_1)).setCell ⟨gb375, 2, none⟩ (.int .i64 t374)).setCell ⟨gb375, 3, none⟩ (.int .i64 (-1))).setCell ⟨gb375, 4, none⟩ (.int .i64 (-1))) = w73
    have n0_ : Aside0 (w73.heap[gb362]? = some (.cells #[.slice A1_0 l1_0.length c1_0, .int .i64 a1_1, .int .i64 a1_2] 80 (0, 0))) := ⟨by rw [← hw_]; exact zPq⟩
    have n1_ : Aside0 (w73.heap[gb363]? = some (.cells #[.int .i64 0, .int .i64 0, .int .i64 0, .int .i64 0, .int .i64 0] 31 (0, 0))) := ⟨by rw [← hw_]; exact zPq⟩
    have n2_ : Aside0 (w73.heap[gb373]? = some (.cells #[.int .i64 t367, .int .i64 t368, .int .i64 t369, .int .i64 t370, .int .i64 t371] 93 (0, 0))) := ⟨by rw [← hw_]; exact zPq⟩
    have n3_ : Aside0 (w73.heap[gb375]? = some (.cells #[.int .i64 a2, .int .i64 a1_1, .int .i64 t374, .int .i64 (-1), .int .i64 (-1)] 31 (0, 0))) := ⟨by rw [← hw_]; exact zp5 (zK BK375.1)⟩
    have n4_ : Aside0 (Below w.heap.size w w73) := ⟨by rw [← hw_]; exact zB3⟩
    (try clear BK362)
    (try clear BK363)
    (try clear BK373)
    (try clear BK375)
    (try clear HB)
    clear hw_
    have BK362 := n0_
    have BK363 := n1_
    have BK373 := n2_
    have BK375 := n3_
    have HB := n4_
    clear n0_ n1_ n2_ n3_ n4_
    replace BK362 := zM (blk_drew BK362.1)
    replace BK363 := zM (blk_drew BK363.1)
    replace BK373 := zM (blk_drew BK373.1)
    replace BK375 := zM (blk_drew BK375.1)
    replace HB := zM (below_drew1 HB.1)
    obtain ⟨p376, q376, ad376, e376, hx376_0⟩ := zRd (Kd.at_int HR0.1 t374)
    have hw376_0 := hx376_0
    obtain rfl : ad366 = ad376 := (by injection e376)
    replace hx376_0 := zHx HB.1 hx376_0
    refine start_ (n := 13) (S := fun w' => w'.cell? ⟨gb362, 0, none⟩ = some (.slice A1_0 l1_0.length c1_0) ∧ w'.cell? ⟨gb362, 1, none⟩ = some (.int .i64 a1_1) ∧ w'.cell? ⟨gb362, 2, none⟩ = some (.int .i64 a1_2) ∧ w'.cell? ⟨gb373, 0, none⟩ = some (.int .i64 t367) ∧ w'.cell? ⟨gb373, 1, none⟩ = some (.int .i64 t368) ∧ w'.cell? ⟨gb373, 2, none⟩ = some (.int .i64 t369) ∧ w'.cell? ⟨gb373, 3, none⟩ = some (.int .i64 t370) ∧ w'.cell? ⟨gb373, 4, none⟩ = some (.int .i64 t371) ∧ w'.cell? ⟨gb375, 0, none⟩ = some (.int .i64 a2) ∧ w'.cell? ⟨gb375, 1, none⟩ = some (.int .i64 a1_1) ∧ w'.cell? ⟨gb375, 2, none⟩ = some (.int .i64 t374) ∧ w'.cell? ⟨gb375, 3, none⟩ = some (.int .i64 (-1)) ∧ w'.cell? ⟨gb375, 4, none⟩ = some (.int .i64 (-1)) ∧ w'.cell? (ad366.add (t374).toNat) = some (.int .i64 (rd l0 t374))) (ds := [12]) zq7_13 (by kernel_rfl) rfl rfl ⟨(blk_cell BK362.1 0).trans rfl, (blk_cell BK362.1 1).trans rfl, (blk_cell BK362.1 2).trans rfl, (blk_cell BK373.1 0).trans rfl, (blk_cell BK373.1 1).trans rfl, (blk_cell BK373.1 2).trans rfl, (blk_cell BK373.1 3).trans rfl, (blk_cell BK373.1 4).trans rfl, (blk_cell BK375.1 0).trans rfl, (blk_cell BK375.1 1).trans rfl, (blk_cell BK375.1 2).trans rfl, (blk_cell BK375.1 3).trans rfl, (blk_cell BK375.1 4).trans rfl, ((HB.1.cell (World.block_lt_of_cell? w _ hw376_0)).trans hw376_0)⟩ (fun hHeld => ?_); refine with_tabW spec_EventOf.tab7 spec_EventOf.bits7 (fun HT_ HW_ => ?_)
    generalize w73.drew = w74 at BK362 BK363 BK373 BK375 HB hx376_0 hHeld ⊢
    refine zPu 2 ?_
    refine zPu 3 ?_
    refine zTk14 0 hHeld ?_
    refine zTk14 1 hHeld ?_
    refine zTk14 4 hHeld ?_
    refine zPu 5 ?_
    refine zTk14 6 hHeld ?_
    refine zOn 7 (some 54) fun K hK => ?_
    refine goes_ Tryd.func63 (by kernel_rfl) rfl #[.agg #[.slice A1_0 l1_0.length c1_0, .int .i64 a1_1, .int .i64 a1_2], .agg #[.int .i64 t367, .int .i64 t368, .int .i64 t369, .int .i64 t370, .int .i64 t371], .int .i64 (rd l0 t374)] (by rfl) rfl rfl zT ?_
    with_reducible refine (spec_Work.calls kj3 _ _ l1_0 a1_1 a1_2 t367 t368 t369 t370 t371 (rd l0 t374) t377 t380 t381 t382 _ ?side1 ?side2 A50.1).mono ?_
    (case side1 => exact zC (Kd.C_below HR1_0.1 HB.1))
    (case side2 => exact HC1_0.1)
    rintro e w75 ⟨v378, rfl, ho0, hb⟩
    refine ⟨_, rfl, ?_⟩
    have HO379 := zM (Kd.R_lower ho0 (below_size zB3))
    replace BK362 := zM (zb BK362.1 hb)
    replace BK363 := zM (zb BK363.1 hb)
    replace BK373 := zM (zb BK373.1 hb)
    replace BK375 := zM (zb BK375.1 hb)
    replace HB := zM (below_step zB3 hb)
    (try clear ho0)
    refine hK.out _ _ ⟨(blk_cell BK362.1 0).trans rfl, (blk_cell BK362.1 1).trans rfl, (blk_cell BK362.1 2).trans rfl, (blk_cell BK373.1 0).trans rfl, (blk_cell BK373.1 1).trans rfl, (blk_cell BK373.1 2).trans rfl, (blk_cell BK373.1 3).trans rfl, (blk_cell BK373.1 4).trans rfl, (blk_cell BK375.1 0).trans rfl, (blk_cell BK375.1 1).trans rfl, (blk_cell BK375.1 2).trans rfl, (blk_cell BK375.1 3).trans rfl, (blk_cell BK375.1 4).trans rfl, ((HB.1.cell (World.block_lt_of_cell? w _ hw376_0)).trans hw376_0)⟩ (fun hHeld => ?_)
    clear hK K
    refine zNo ?_
    refine zPu 8 ?_
    refine zPu 9 ?_
    refine zPu 10 ?_
    refine zPu 11 ?_
    refine last_ (i := 12) (N := none) zq7_26 rfl rfl (one_of HT_.1 (by kernel_rfl)) (by decide) (fun K hK => ?_)
    obtain ⟨hs76, hfs76⟩ := zHs BK375.1 4
    have hns76_0 := NB362_375.1
    have hns76_1 := NB363_375.1
    have hns76_2 := NB373_375.1
    have hms76_0 := NB375_362.1
    have hms76_1 := NB375_363.1
    have hms76_2 := NB375_373.1
    refine skip_ (w1 := ?_) (by rfl) rfl ?_ ?_
    rotate_left
    ·go_simp
     rfl
    refine hK.out _ _ ?_
    clear hK K
    refine done_ (done_of HT_.1 (by kernel_rfl)) ?_
    have hcz77 := zc_5 (w := w75) BK373.1
    have hcz78 := zc_5 (w := w75) BK375.1
    have hcz79 := zc_5 (w := w75) BK363.1
    try go_wp2
    refine bodyPost_ret (results_ct rfl _ _ gb363 31 #[.int .i64 a2, .int .i64 a1_1, .int .i64 t374, .int .i64 (-1), .int .i64 t382] (0, 0) _ rfl zPq Tryd.underlying31 rfl (by kernel_rfl)) rfl ?_
    exact ⟨zE, zB3⟩
   rw [if_neg c51] at H
   have c51b0 : (t367 == 5) = false := beq_eq_false_iff_ne.mpr c51
   have c51b1 : (t367 != 5) = true := bne_iff_ne.mpr c51
   simp only [Option.some.injEq, Prod.mk.injEq] at H
   obtain ⟨rfl, rfl, rfl, rfl, rfl, rfl⟩ := H
   have hnb80 := NB362_363.1
   have hnc80 := NB363_362.1
   have hcz81 := zc_3 (w := wc) BK362.1
   obtain ⟨p366, q366, ad366, e366, hx366_0⟩ := zRd (Kd.at_int HR0.1 a1_1)
   cases e366
   replace hx366_0 := zHx HB.1 hx366_0
   try go_wp2_with (first | ((with_reducible refine gate_callee (f := 61) rfl ?_); refine goesL_ (some 31) rfl rfl Tryd.func61 (by kernel_rfl) rfl #[.int .i64 (rd l0 a1_1)] rfl zT ?_; (with_reducible refine (spec_Decode.calls (rd l0 a1_1) t367 t368 t369 t370 t371 t372 _ A23.1).mono ?_); rintro e w82 ⟨rfl, hb⟩; refine ⟨_, rfl, ?_⟩; replace BK362 := zM (zb BK362.1 hb); replace BK363 := zM (zb BK363.1 hb); replace HB := zM (below_step zB3 hb); clear hb) | ((with_reducible refine zBx 8 93 #[.int .i64 0, .int .i64 0, .int .i64 0, .int .i64 0, .int .i64 0] ?_); intro gb373 hg w83 hbox hb; have BK373 := zM hbox; have GW373 := zM (zW hg (below_size zB3)); have GE373 := zM (zW hg (below_size zB3)); replace HB := zM (below_step zB3 hb); have NB362_373 := zM ((zn BK362.1 hg : gb362 ≠ gb373)); have NB373_362 := zM ((zm BK362.1 hg : gb373 ≠ gb362)); replace BK362 := zM (zb BK362.1 hb); have NB363_373 := zM ((zn BK363.1 hg : gb363 ≠ gb373)); have NB373_363 := zM ((zm BK363.1 hg : gb373 ≠ gb363)); replace BK363 := zM (zb BK363.1 hb); clear hb hbox hg; have hnb84 := NB373_362.1; have hnc84 := NB362_373.1; have hnb85 := NB373_363.1; have hnc85 := NB363_373.1; have hcz86 := zc_5 (w := w83) BK373.1))
   generalize hw_ : (((((w83.setCell ⟨gb373, 0, none⟩ (.int .i64 t367)).setCell ⟨gb373, 1, none⟩ (.int .i64 t368)).setCell ⟨gb373, 2, none⟩ (.int .i64 t369)).setCell ⟨gb373, 3, none⟩ (.int .i64 t370)).setCell ⟨gb373, 4, none⟩ (.int .i64 t371)) = w87
   have n0_ : Aside0 (w87.heap[gb362]? = some (.cells #[.slice A1_0 l1_0.length c1_0, .int .i64 a1_1, .int .i64 a1_2] 80 (0, 0))) := ⟨by rw [← hw_]; exact zPq⟩
   have n1_ : Aside0 (w87.heap[gb363]? = some (.cells #[.int .i64 0, .int .i64 0, .int .i64 0, .int .i64 0, .int .i64 0] 31 (0, 0))) := ⟨by rw [← hw_]; exact zPq⟩
   have n2_ : Aside0 (w87.heap[gb373]? = some (.cells #[.int .i64 t367, .int .i64 t368, .int .i64 t369, .int .i64 t370, .int .i64 t371] 93 (0, 0))) := ⟨by rw [← hw_]; exact zp5 (zK BK373.1)⟩
   have n3_ : Aside0 (Below w.heap.size w w87) := ⟨by rw [← hw_]; exact zB3⟩
   (try clear BK362)
   (try clear BK363)
   (try clear BK373)
   (try clear HB)
   clear hw_
   have BK362 := n0_
   have BK363 := n1_
   have BK373 := n2_
   have HB := n3_
   clear n0_ n1_ n2_ n3_
   replace BK362 := zM (blk_drew BK362.1)
   replace BK363 := zM (blk_drew BK363.1)
   replace BK373 := zM (blk_drew BK373.1)
   replace HB := zM (below_drew1 HB.1)
   refine start_ (n := 10) (S := fun w' => w'.cell? ⟨gb362, 0, none⟩ = some (.slice A1_0 l1_0.length c1_0) ∧ w'.cell? ⟨gb362, 1, none⟩ = some (.int .i64 a1_1) ∧ w'.cell? ⟨gb362, 2, none⟩ = some (.int .i64 a1_2) ∧ w'.cell? ⟨gb373, 0, none⟩ = some (.int .i64 t367) ∧ w'.cell? ⟨gb373, 1, none⟩ = some (.int .i64 t368) ∧ w'.cell? ⟨gb373, 2, none⟩ = some (.int .i64 t369) ∧ w'.cell? ⟨gb373, 3, none⟩ = some (.int .i64 t370) ∧ w'.cell? ⟨gb373, 4, none⟩ = some (.int .i64 t371)) (ds := []) zq7_0 (by kernel_rfl) rfl rfl ⟨(blk_cell BK362.1 0).trans rfl, (blk_cell BK362.1 1).trans rfl, (blk_cell BK362.1 2).trans rfl, (blk_cell BK373.1 0).trans rfl, (blk_cell BK373.1 1).trans rfl, (blk_cell BK373.1 2).trans rfl, (blk_cell BK373.1 3).trans rfl, (blk_cell BK373.1 4).trans rfl⟩ (fun hHeld => ?_); refine with_tabW spec_EventOf.tab4 spec_EventOf.bits4 (fun HT_ HW_ => ?_)
   generalize w87.drew = w88 at BK362 BK363 BK373 HB hHeld ⊢
   refine zPu 0 ?_
   refine zPu 1 ?_
   refine zPu 4 ?_
   refine zTk8 2 hHeld ?_
   refine zTk8 3 hHeld ?_
   refine zTk8 5 hHeld ?_
   refine join_ (σ := Nat) 1 zq7_7 (fun s_ => [(40, .int .i64 t374), (10, .pointer (some ⟨s_, 0, none⟩)), (41, .agg #[.int .i64 a2, .int .i64 a1_1, .int .i64 t374, .int .i64 (-1), .int .i64 (-1)])]) (fun s_ w' => (w'.cell? ⟨gb362, 0, none⟩ = some (.slice A1_0 l1_0.length c1_0) ∧ w'.cell? ⟨gb362, 1, none⟩ = some (.int .i64 a1_1) ∧ w'.cell? ⟨gb362, 2, none⟩ = some (.int .i64 a1_2) ∧ w'.cell? ⟨gb373, 0, none⟩ = some (.int .i64 t367) ∧ w'.cell? ⟨gb373, 1, none⟩ = some (.int .i64 t368) ∧ w'.cell? ⟨gb373, 2, none⟩ = some (.int .i64 t369) ∧ w'.cell? ⟨gb373, 3, none⟩ = some (.int .i64 t370) ∧ w'.cell? ⟨gb373, 4, none⟩ = some (.int .i64 t371)) ∧ (w'.heap[gb362]? = some (.cells #[.slice A1_0 l1_0.length c1_0, .int .i64 a1_1, .int .i64 a1_2] 80 (0, 0))) ∧ (w'.heap[gb363]? = some (.cells #[.int .i64 0, .int .i64 0, .int .i64 0, .int .i64 0, .int .i64 0] 31 (0, 0))) ∧ (w'.heap[gb373]? = some (.cells #[.int .i64 t367, .int .i64 t368, .int .i64 t369, .int .i64 t370, .int .i64 t371] 93 (0, 0))) ∧ (w'.heap[s_]? = some (.cells #[.int .i64 0, .int .i64 0, .int .i64 0, .int .i64 0, .int .i64 0] 31 (0, 0))) ∧ (w.heap.size ≤ s_) ∧ (w.heap.size ≤ s_) ∧ (gb362 ≠ s_) ∧ (s_ ≠ gb362) ∧ (gb363 ≠ s_) ∧ (s_ ≠ gb363) ∧ (gb373 ≠ s_) ∧ (s_ ≠ gb373) ∧ (Below w.heap.size w w')) ?_ ?_
   rotate_left
   ·intro hCont
    refine two_ (i := 6) (j := 8) (Ni := some 40) (Nj := some 10) zq7_8 zq7_9 rfl rfl rfl rfl (two_of HT_.1 (by kernel_rfl)) (by decide) (by decide) (fun K hK => ?_) (fun K hK => ?_)
    ·refine goes_ Tryd.func62 (by kernel_rfl) rfl #[.agg #[.int .i64 t367, .int .i64 t368, .int .i64 t369, .int .i64 t370, .int .i64 t371], .slice A1_0 l1_0.length c1_0] (by rfl) rfl rfl zT ?_
     with_reducible refine (spec_Target.calls t367 t368 t369 t370 t371 _ _ l1_0 t374 _ ?side1 ?side2 A24.1).mono ?_
     (case side1 => exact zC (Kd.C_below HR1_0.1 HB.1))
     (case side2 => exact HC1_0.1)
     rintro e w89 ⟨rfl, hb⟩
     refine ⟨_, rfl, ?_⟩
     replace BK362 := zM (zb BK362.1 hb)
     replace BK363 := zM (zb BK363.1 hb)
     replace BK373 := zM (zb BK373.1 hb)
     replace HB := zM (below_step zB3 hb)
     refine hK.out _ _ zCs fun hHeld => ?_
     clear hK K
     refine zNo ?_
     refine zPu 7 ?_
     refine zOn 8 (some 10) fun K hK => ?_
     refine zBs 10 31 #[.int .i64 0, .int .i64 0, .int .i64 0, .int .i64 0, .int .i64 0] ?_
     intro gb375 hg w90 hbox hb
     replace BK375 := zM hbox
     replace GW375 := zM (zW hg (below_size zB3))
     replace GE375 := zM (zW hg (below_size zB3))
     replace HB := zM (below_step zB3 hb)
     replace NB362_375 := zM ((zn BK362.1 hg : gb362 ≠ gb375))
     replace NB375_362 := zM ((zm BK362.1 hg : gb375 ≠ gb362))
     replace BK362 := zM (zb BK362.1 hb)
     replace NB363_375 := zM ((zn BK363.1 hg : gb363 ≠ gb375))
     replace NB375_363 := zM ((zm BK363.1 hg : gb375 ≠ gb363))
     replace BK363 := zM (zb BK363.1 hb)
     replace NB373_375 := zM ((zn BK373.1 hg : gb373 ≠ gb375))
     replace NB375_373 := zM ((zm BK373.1 hg : gb375 ≠ gb373))
     replace BK373 := zM (zb BK373.1 hb)
     refine hK.out _ _ zCs fun hHeld => ?_
     clear hK K
     refine zNo ?_
     exact norm_ zNr (hCont (gb375) _ ⟨hHeld, (zK BK362.1), (zK BK363.1), (zK BK373.1), (zK BK375.1), GW375.1, GE375.1, NB362_375.1, NB375_362.1, NB363_375.1, NB375_363.1, NB373_375.1, NB375_373.1, zB3⟩)
    ·refine zBs 10 31 #[.int .i64 0, .int .i64 0, .int .i64 0, .int .i64 0, .int .i64 0] ?_
     intro gb375 hg w89 hbox hb
     replace BK375 := zM hbox
     replace GW375 := zM (zW hg (below_size zB3))
     replace GE375 := zM (zW hg (below_size zB3))
     replace HB := zM (below_step zB3 hb)
     replace NB362_375 := zM ((zn BK362.1 hg : gb362 ≠ gb375))
     replace NB375_362 := zM ((zm BK362.1 hg : gb375 ≠ gb362))
     replace BK362 := zM (zb BK362.1 hb)
     replace NB363_375 := zM ((zn BK363.1 hg : gb363 ≠ gb375))
     replace NB375_363 := zM ((zm BK363.1 hg : gb375 ≠ gb363))
     replace BK363 := zM (zb BK363.1 hb)
     replace NB373_375 := zM ((zn BK373.1 hg : gb373 ≠ gb375))
     replace NB375_373 := zM ((zm BK373.1 hg : gb375 ≠ gb373))
     replace BK373 := zM (zb BK373.1 hb)
     refine hK.out _ _ zCs fun hHeld => ?_
     clear hK K
     refine zNo ?_
     refine zOn 6 (some 40) fun K hK => ?_
     refine goes_ Tryd.func62 (by kernel_rfl) rfl #[.agg #[.int .i64 t367, .int .i64 t368, .int .i64 t369, .int .i64 t370, .int .i64 t371], .slice A1_0 l1_0.length c1_0] (by rfl) rfl rfl zT ?_
     with_reducible refine (spec_Target.calls t367 t368 t369 t370 t371 _ _ l1_0 t374 _ ?side1 ?side2 A24.1).mono ?_
     (case side1 => exact zC (Kd.C_below HR1_0.1 HB.1))
     (case side2 => exact HC1_0.1)
     rintro e w90 ⟨rfl, hb⟩
     refine ⟨_, rfl, ?_⟩
     replace BK362 := zM (zb BK362.1 hb)
     replace BK363 := zM (zb BK363.1 hb)
     replace BK373 := zM (zb BK373.1 hb)
     replace BK375 := zM (zb BK375.1 hb)
     replace HB := zM (below_step zB3 hb)
     refine hK.out _ _ zCs fun hHeld => ?_
     clear hK K
     refine zNo ?_
     refine zPu 7 ?_
     exact norm_ zNr (hCont (gb375) _ ⟨hHeld, (zK BK362.1), (zK BK363.1), (zK BK373.1), (zK BK375.1), GW375.1, GE375.1, NB362_375.1, NB375_362.1, NB363_375.1, NB375_363.1, NB373_375.1, NB375_373.1, zB3⟩)
   rintro gb375 w91 ⟨hS_, h0_, h1_, h2_, h3_, h4_, h5_, h6_, h7_, h8_, h9_, h10_, h11_, h12_⟩
   replace BK362 := zM h0_
   replace BK363 := zM h1_
   replace BK373 := zM h2_
   replace BK375 := zM h3_
   replace GW375 := zM h4_
   replace GE375 := zM h5_
   replace NB362_375 := zM h6_
   replace NB375_362 := zM h7_
   replace NB363_375 := zM h8_
   replace NB375_363 := zM h9_
   replace NB373_375 := zM h10_
   replace NB375_373 := zM h11_
   replace HB := zM h12_
   have hHeld := hS_
   refine zNp ?_
   refine zOn 9 none fun K hK => ?_
   obtain ⟨hs92, hfs92⟩ := zHs BK375.1 0
   have hns92_0 := NB362_375.1
   have hns92_1 := NB363_375.1
   have hns92_2 := NB373_375.1
   have hms92_0 := NB375_362.1
   have hms92_1 := NB375_363.1
   have hms92_2 := NB375_373.1
   obtain ⟨hs93, hfs93⟩ := zHs BK375.1 1
   have hns93_0 := NB362_375.1
   have hns93_1 := NB363_375.1
   have hns93_2 := NB373_375.1
   have hms93_0 := NB375_362.1
   have hms93_1 := NB375_363.1
   have hms93_2 := NB375_373.1
   obtain ⟨hs94, hfs94⟩ := zHs BK375.1 2
   have hns94_0 := NB362_375.1
   have hns94_1 := NB363_375.1
   have hns94_2 := NB373_375.1
   have hms94_0 := NB375_362.1
   have hms94_1 := NB375_363.1
   have hms94_2 := NB375_373.1
   obtain ⟨hs95, hfs95⟩ := zHs BK375.1 3
   have hns95_0 := NB362_375.1
   have hns95_1 := NB363_375.1
   have hns95_2 := NB373_375.1
   have hms95_0 := NB375_362.1
   have hms95_1 := NB375_363.1
   have hms95_2 := NB375_373.1
   obtain ⟨hs96, hfs96⟩ := zHs BK375.1 4
   have hns96_0 := NB362_375.1
   have hns96_1 := NB363_375.1
   have hns96_2 := NB373_375.1
   have hms96_0 := NB375_362.1
   have hms96_1 := NB375_363.1
   have hms96_2 := NB375_373.1
   refine skip_ (w1 := ?_) (by rfl) rfl ?_ ?_
   rotate_left
   ·go_simp
    rfl
   refine hK.out _ _ zCs fun hHeld => ?_
   clear hK K
   refine done_ (done_of HT_.1 (by kernel_rfl)) ?_
   have hnb97 := NB375_362.1
   have hnc97 := NB362_375.1
   have hnb98 := NB375_363.1
   have hnc98 := NB363_375.1
   have hnb99 := NB375_373.1
   have hnc99 := NB373_375.1
   have hcz100 := zc_5 (w := w91) BK375.1
   try go_wp2
   generalize hw_ : (((((w91.setCell ⟨gb375, 0, none⟩ (.int .i64 a2)).setCell ⟨gb375, 1, none⟩ (.int .i64 a1_1)).setCell ⟨gb375, 2, none⟩ (.int .i64 t374)).setCell ⟨gb375, 3, none⟩ (.int .i64 (-1))).setCell ⟨gb375, 4, none⟩ (.int .i64 (-1))) = w101
   have n0_ : Aside0 (w101.heap[gb362]? = some (.cells #[.slice A1_0 l1_0.length c1_0, .int .i64 a1_1, .int .i64 a1_2] 80 (0, 0))) := ⟨by rw [← hw_]; exact zPq⟩
   have n1_ : Aside0 (w101.heap[gb363]? = some (.cells #[.int .i64 0, .int .i64 0, .int .i64 0, .int .i64 0, .int .i64 0] 31 (0, 0))) := ⟨by rw [← hw_]; exact zPq⟩
   have n2_ : Aside0 (w101.heap[gb373]? = some (.cells #[.int .i64 t367, .int .i64 t368, .int .i64 t369, .int .i64 t370, .int .i64 t371] 93 (0, 0))) := ⟨by rw [← hw_]; exact zPq⟩
   have n3_ : Aside0 (w101.heap[gb375]? = some (.cells #[.int .i64 a2, .int .i64 a1_1, .int .i64 t374, .int .i64 (-1), .int .i64 (-1)] 31 (0, 0))) := ⟨by rw [← hw_]; exact zp5 (zK BK375.1)⟩
   have n4_ : Aside0 (Below w.heap.size w w101) := ⟨by rw [← hw_]; exact zB3⟩
   (try clear BK362)
   (try clear BK363)
   (try clear BK373)
   (try clear BK375)
   (try clear HB)
   clear hw_
   have BK362 := n0_
   have BK363 := n1_
   have BK373 := n2_
   have BK375 := n3_
   have HB := n4_
   clear n0_ n1_ n2_ n3_ n4_
   replace BK362 := zM (blk_drew BK362.1)
   replace BK363 := zM (blk_drew BK363.1)
   replace BK373 := zM (blk_drew BK373.1)
   replace BK375 := zM (blk_drew BK375.1)
   replace HB := zM (below_drew1 HB.1)
   obtain ⟨p376, q376, ad376, e376, hx376_0⟩ := zRd (Kd.at_int HR0.1 t374)
   have hw376_0 := hx376_0
   obtain rfl : ad366 = ad376 := (by injection e376)
   replace hx376_0 := zHx HB.1 hx376_0
   refine start_ (n := 13) (S := fun w' => w'.cell? ⟨gb362, 0, none⟩ = some (.slice A1_0 l1_0.length c1_0) ∧ w'.cell? ⟨gb362, 1, none⟩ = some (.int .i64 a1_1) ∧ w'.cell? ⟨gb362, 2, none⟩ = some (.int .i64 a1_2) ∧ w'.cell? ⟨gb373, 0, none⟩ = some (.int .i64 t367) ∧ w'.cell? ⟨gb373, 1, none⟩ = some (.int .i64 t368) ∧ w'.cell? ⟨gb373, 2, none⟩ = some (.int .i64 t369) ∧ w'.cell? ⟨gb373, 3, none⟩ = some (.int .i64 t370) ∧ w'.cell? ⟨gb373, 4, none⟩ = some (.int .i64 t371) ∧ w'.cell? ⟨gb375, 0, none⟩ = some (.int .i64 a2) ∧ w'.cell? ⟨gb375, 1, none⟩ = some (.int .i64 a1_1) ∧ w'.cell? ⟨gb375, 2, none⟩ = some (.int .i64 t374) ∧ w'.cell? ⟨gb375, 3, none⟩ = some (.int .i64 (-1)) ∧ w'.cell? ⟨gb375, 4, none⟩ = some (.int .i64 (-1)) ∧ w'.cell? (ad366.add (t374).toNat) = some (.int .i64 (rd l0 t374))) (ds := [12]) zq7_13 (by kernel_rfl) rfl rfl ⟨(blk_cell BK362.1 0).trans rfl, (blk_cell BK362.1 1).trans rfl, (blk_cell BK362.1 2).trans rfl, (blk_cell BK373.1 0).trans rfl, (blk_cell BK373.1 1).trans rfl, (blk_cell BK373.1 2).trans rfl, (blk_cell BK373.1 3).trans rfl, (blk_cell BK373.1 4).trans rfl, (blk_cell BK375.1 0).trans rfl, (blk_cell BK375.1 1).trans rfl, (blk_cell BK375.1 2).trans rfl, (blk_cell BK375.1 3).trans rfl, (blk_cell BK375.1 4).trans rfl, ((HB.1.cell (World.block_lt_of_cell? w _ hw376_0)).trans hw376_0)⟩ (fun hHeld => ?_); refine with_tabW spec_EventOf.tab7 spec_EventOf.bits7 (fun HT_ HW_ => ?_)
   generalize w101.drew = w102 at BK362 BK363 BK373 BK375 HB hx376_0 hHeld ⊢
   refine zPu 2 ?_
   refine zPu 3 ?_
   refine zTk14 0 hHeld ?_
   refine zTk14 1 hHeld ?_
   refine zTk14 4 hHeld ?_
   refine zPu 5 ?_
   refine zTk14 6 hHeld ?_
   refine zOn 7 (some 54) fun K hK => ?_
   refine goes_ Tryd.func63 (by kernel_rfl) rfl #[.agg #[.slice A1_0 l1_0.length c1_0, .int .i64 a1_1, .int .i64 a1_2], .agg #[.int .i64 t367, .int .i64 t368, .int .i64 t369, .int .i64 t370, .int .i64 t371], .int .i64 (rd l0 t374)] (by rfl) rfl rfl zT ?_
   with_reducible refine (spec_Work.calls kj3 _ _ l1_0 a1_1 a1_2 t367 t368 t369 t370 t371 (rd l0 t374) t377 t380 t381 t382 _ ?side1 ?side2 A50.1).mono ?_
   (case side1 => exact zC (Kd.C_below HR1_0.1 HB.1))
   (case side2 => exact HC1_0.1)
   rintro e w103 ⟨v378, rfl, ho0, hb⟩
   refine ⟨_, rfl, ?_⟩
   have HO379 := zM (Kd.R_lower ho0 (below_size zB3))
   replace BK362 := zM (zb BK362.1 hb)
   replace BK363 := zM (zb BK363.1 hb)
   replace BK373 := zM (zb BK373.1 hb)
   replace BK375 := zM (zb BK375.1 hb)
   replace HB := zM (below_step zB3 hb)
   (try clear ho0)
   refine hK.out _ _ ⟨(blk_cell BK362.1 0).trans rfl, (blk_cell BK362.1 1).trans rfl, (blk_cell BK362.1 2).trans rfl, (blk_cell BK373.1 0).trans rfl, (blk_cell BK373.1 1).trans rfl, (blk_cell BK373.1 2).trans rfl, (blk_cell BK373.1 3).trans rfl, (blk_cell BK373.1 4).trans rfl, (blk_cell BK375.1 0).trans rfl, (blk_cell BK375.1 1).trans rfl, (blk_cell BK375.1 2).trans rfl, (blk_cell BK375.1 3).trans rfl, (blk_cell BK375.1 4).trans rfl, ((HB.1.cell (World.block_lt_of_cell? w _ hw376_0)).trans hw376_0)⟩ (fun hHeld => ?_)
   clear hK K
   refine zNo ?_
   refine zPu 8 ?_
   refine zPu 9 ?_
   refine zPu 10 ?_
   refine zPu 11 ?_
   refine last_ (i := 12) (N := none) zq7_26 rfl rfl (one_of HT_.1 (by kernel_rfl)) (by decide) (fun K hK => ?_)
   obtain ⟨hs104, hfs104⟩ := zHs BK375.1 4
   have hns104_0 := NB362_375.1
   have hns104_1 := NB363_375.1
   have hns104_2 := NB373_375.1
   have hms104_0 := NB375_362.1
   have hms104_1 := NB375_363.1
   have hms104_2 := NB375_373.1
   refine skip_ (w1 := ?_) (by rfl) rfl ?_ ?_
   rotate_left
   ·go_simp
    rfl
   refine hK.out _ _ ?_
   clear hK K
   refine done_ (done_of HT_.1 (by kernel_rfl)) ?_
   have hcz105 := zc_5 (w := w103) BK373.1
   have hcz106 := zc_5 (w := w103) BK375.1
   obtain ⟨p383, q383, ad383, e383, hx383_0⟩ := zRd (Kd.at_int HR0.1 t374)
   obtain rfl : ad366 = ad383 := (by injection e383)
   have hn383_0 : ad366.block ≠ gb375 := Nat.ne_of_lt (Nat.lt_of_lt_of_le (by have := World.block_lt_of_cell? _ _ hx383_0; first | rwa [add_block] at this | exact this) GW375.1)
   replace hx383_0 := zHx HB.1 hx383_0
   replace hx383_0 := (cell_far (p := ⟨gb375, 4, none⟩) (by first | (rw [add_block]; exact hn383_0) | (show (Addr.add _ _).block ≠ _; rw [add_block]; exact hn383_0) | exact hn383_0) (.int .i64 t382)).trans hx383_0
   clear hn383_0
   have hcz107 := zc_5 (w := w103) BK363.1
   try go_wp2
   refine bodyPost_ret (results_ct rfl _ _ gb363 31 #[.int .i64 a2, .int .i64 a1_1, .int .i64 t374, .int .i64 (rd l0 t374), .int .i64 t382] (0, 0) _ rfl zPq Tryd.underlying31 rfl (by kernel_rfl)) rfl ?_
   exact ⟨zE, zB3⟩

end Go.Proofs.YtaakcbgpmabaaaaDoor.PFnStories
