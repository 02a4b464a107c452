-- made by wip/tools/myprint.py out of the seat's translation
import Derived.Test.YtgbjengnkbomoaaPFnKnowsx0
import Derived.Test.YtgbjengnkbomoaaPFnKnowsx5
import Derived.Test.YtgbjengnkbomoaaPFnKnowsx6
namespace Go.Proofs.Ytgbjengnkbomoaa.PFnKnows
open Go.RowKit Go.Proofs.YtgbjengnkbomoaaW.PrintWords Go.Proofs.YtgbjengnkbomoaaW.PrintLast Go.Proofs.YtgbjengnkbomoaaW.PrintMore
attribute [local go_sem] max2_int min2_int max_two min_two max_three min_three max_four min_four   -- for this text's walks alone
set_option linter.unusedVariables false
set_option linter.unusedSimpArgs false
set_option maxHeartbeats 8000000
set_option maxRecDepth 100000
abbrev zq7_0 : Array Bool := #[false, false, false, false, false, false, false, false, false, false]
abbrev zq7_7 : Array Bool := #[true, true, true, true, true, true, true, true, true, false]
abbrev zq7_8 : Array Bool := #[true, true, true, true, true, true, true, false, false, false]
abbrev zq7_9 : Array Bool := #[true, true, true, true, true, true, false, false, true, false]
abbrev zq7_13 : Array Bool := #[false, false, false, false, false, false, false, false, false, false, false, false, false]
abbrev zq7_26 : Array Bool := #[true, true, true, true, true, true, true, true, true, true, true, true, true]

/-! ### spec_EventOf: function 56 -/
def spec_EventOf.j0 : Nat → List Int → Int → Bool → List Int → Int → Int → Option (Int × Int × Int × Int × Int × Bool)
 | 0, _, _, _, _, _, _ => none
 | k + 1, x0, x2, x23, x302000, x302001, x302002 => if x23 = true then (some (0, 0, 0, 0, 0, false)) else (if 0 ≤ x302001 then (if x302001 < (x0.length : Int) then ((spec_Decode.f (rd x0 x302001)).bind fun bt306 => ((spec_Target.f bt306.1 bt306.2.1 bt306.2.2.1 bt306.2.2.2.1 bt306.2.2.2.2.1 x302000).bind fun t313 => (if t313 < 0 then (some (x2, x302001, t313, (-1), (-1), true)) else (if 0 ≤ t313 then (if t313 < (x0.length : Int) then ((spec_Work.f k x302000 x302001 x302002 bt306.1 bt306.2.1 bt306.2.2.1 bt306.2.2.2.1 bt306.2.2.2.2.1 (rd x0 t313)).bind fun bt316 => (if bt306.1 = 5 then (some (x2, x302001, t313, (-1), bt316.2.2.2, true)) else (some (x2, x302001, t313, rd x0 t313, bt316.2.2.2, true)))) else (none)) else (none))))) else (none)) else (none))
def spec_EventOf.f (k : Nat) (l0 : List Int) (l1_0 : List Int) (a1_1 : Int) (a1_2 : Int) (a2 : Int) : Option (Int × Int × Int × Int × Int × Bool) := (spec_l1Words.f k l0 24).bind fun t303 => (if t303 = true then ((spec_HartOk.f k l1_0 a1_1 a1_2).bind fun t304 => (if t304 = true then (spec_EventOf.j0 k l0 a2 (a1_2 != 0) l1_0 a1_1 a1_2) else (spec_EventOf.j0 k l0 a2 true l1_0 a1_1 a1_2))) else (spec_EventOf.j0 k l0 a2 true l1_0 a1_1 a1_2))
theorem spec_EventOf.mono_l : ∀ k, (∀ y0 y1 y2 y3 y4 y5, LeO (spec_EventOf.j0 k y0 y1 y2 y3 y4 y5) (spec_EventOf.j0 (k + 1) y0 y1 y2 y3 y4 y5))
 | 0 => fun _ _ _ _ _ _ r h => by simp [spec_EventOf.j0] at h
 | k + 1 => by
  have ih0 := spec_EventOf.mono_l k
  ·intros
   unfold spec_EventOf.j0
   have mo0 := @spec_HartOk.mono
   have mo1 := @spec_Work.mono
   have mo2 := @spec_l1Words.mono
   exact zL
theorem spec_EventOf.mono : ∀ a0 a1 a2 a3 a4 k, LeO (spec_EventOf.f k a0 a1 a2 a3 a4) (spec_EventOf.f (k + 1) a0 a1 a2 a3 a4) := by
 intro a0 a1 a2 a3 a4 k
 have ih0 := spec_EventOf.mono_l k
 unfold spec_EventOf.f
 have mo0 := @spec_HartOk.mono
 have mo1 := @spec_Work.mono
 have mo2 := @spec_l1Words.mono
 exact zL
def spec_EventOf.T4 : Bool × List (List Nat × List Nat) := (true, [([], []), ([], []), ([1], [1]), ([], []), ([], []), ([4], [4]), ([3, 5], [3, 5]), ([0, 2, 6], [0, 2, 6]), ([], []), ([8, 7, 6, 0, 1, 2, 3, 4, 5, 6, 7, 8], [7, 8])])
def spec_EventOf.B4 : List Nat := [0, 0, 2, 0, 0, 16, 56, 127, 0, 511]
theorem spec_EventOf.tab4 : rtab .any (opsOf Try.f56 4) = spec_EventOf.T4 := by kernel_rfl
theorem spec_EventOf.bits4 : waitsOk spec_EventOf.T4.2 spec_EventOf.B4 = true := by kernel_rfl
def spec_EventOf.T7 : Bool × List (List Nat × List Nat) := (true, [([], []), ([], []), ([], []), ([], []), ([3], [3]), ([2, 4], [2, 4]), ([5], [5]), ([0, 1, 6], [0, 1, 6]), ([7], [7]), ([8], [8]), ([8], [8]), ([0, 1, 2, 3, 4, 5, 6, 7, 8, 9, 10], []), ([11, 10, 7, 0, 1, 2, 3, 4, 5, 6, 7, 8, 9, 10], [10, 11])])
def spec_EventOf.B7 : List Nat := [0, 0, 0, 0, 8, 28, 60, 127, 255, 511, 511, 2047, 4095]
theorem spec_EventOf.tab7 : rtab .any (opsOf Try.f56 7) = spec_EventOf.T7 := by kernel_rfl
theorem spec_EventOf.bits7 : waitsOk spec_EventOf.T7.2 spec_EventOf.B7 = true := by kernel_rfl
theorem spec_EventOf.calls (k : Nat) (A0 : Option Addr) (c0 : Nat) (l0 : List Int) (A1_0 : Option Addr) (c1_0 : Nat) (l1_0 : List Int) (a1_1 : Int) (a1_2 : Int) (a2 : Int) (r1 : Int) (r2 : Int) (r3 : Int) (r4 : Int) (r5 : Int) (r6 : Bool) (w : World) (hr0 : Kd.C (Kd.int .i64) w A0 l0.length l0) (hc0 : l0.length ≤ c0) (hr1_0 : Kd.C (Kd.int .i64) w A1_0 l1_0.length l1_0) (hc1_0 : l1_0.length ≤ c1_0) (h : spec_EventOf.f k l0 l1_0 a1_1 a1_2 a2 = some (r1, r2, r3, r4, r5, r6)) :
  Calls Try.prog 56 #[.slice A0 l0.length c0, .agg #[.slice A1_0 l1_0.length c1_0, .int .i64 a1_1, .int .i64 a1_2], .int .i64 a2] w fun e w' => e = .returned (.tuple #[.agg #[.int .i64 r1, .int .i64 r2, .int .i64 r3, .int .i64 r4, .int .i64 r5], .bool r6]) ∧ Below w.heap.size w w' := by
 have HR0 := zM hr0
 have HC0 := zM hc0
 clear hr0 hc0
 have HR1_0 := zM hr1_0
 have HC1_0 := zM hc1_0
 clear hr1_0 hc1_0
 have HB := zM (Below.refl w.heap.size w)
 unfold spec_EventOf.f at h
 have H := h
 clear h
 have HC4 := zM H
 clear H
 go_enter Try.func56, Try.ntmps56
 go_upto_region 1 with (first | ((with_reducible refine zBx 4 49 #[.slice A1_0 l1_0.length c1_0, .int .i64 a1_1, .int .i64 a1_2] ?_); intro gb301 hg w5 hbox hb; have BK301 := zM hbox; replace HB := zM (below_step zB1 hb); clear hb hbox hg) | ((with_reducible refine zBx 6 31 #[.int .i64 0, .int .i64 0, .int .i64 0, .int .i64 0, .int .i64 0] ?_); intro gb302 hg w6 hbox hb; have BK302 := zM hbox; have GE302 := zM (zW hg (below_size zB1)); replace HB := zM (below_step zB1 hb); replace BK301 := zM (zb BK301.1 hb); clear hb hbox hg))
 (try simp only [Act.put, List.setIfInBounds_toArray, List.set_cons_zero, List.set_cons_succ])
 go_cut [23] (fun v23 wc => ∃ (kq : Nat) (x23_3 : Bool), v23 = .bool x23_3 ∧ Aside0 (spec_EventOf.j0 kq l0 a2 x23_3 l1_0 a1_1 a1_2 = some (r1, r2, r3, r4, r5, r6)) ∧ Aside0 (kq ≤ k) ∧ Aside0 (wc.heap[gb301]? = some (.cells #[(.slice A1_0 l1_0.length c1_0), .int .i64 a1_1, .int .i64 a1_2] 49 (0, 0))) ∧ Aside0 (wc.heap[gb302]? = some (.cells #[.int .i64 0, .int .i64 0, .int .i64 0, .int .i64 0, .int .i64 0] 31 (0, 0))) ∧ Aside0 (Below w.heap.size w wc))
 case first =>
  have H := HC4.1
  clear HC4
  replace H := zO H
  obtain ⟨t303, A7, H⟩ := H
  by_cases c8 : t303 = true
  rotate_left
  ·replace c8 := Bool.eq_false_iff.mpr c8
   subst c8
   rw [if_neg zF] at H
   have H' := zM H
   clear H
   go_wp2_with (first | ((with_reducible refine zG Try.func75 12 #[.slice A0 l0.length c0, .int .i64 24] ?_); (with_reducible refine (spec_l1Words.calls k _ _ l0 24 false _ ?side1 ?side2 A7.1).mono ?_); (case side1 => exact zC (Kd.C_below HR0.1 HB.1)); (case side2 => exact HC0.1); rintro e w' ⟨rfl, ⟨nd, rfl⟩⟩; refine ⟨_, rfl, ?_⟩))
   go_meet
   case rel => exact ⟨_, (true), zJJ, H', ⟨by first | omega | exact Nat.le_refl _⟩, ⟨zK BK301.1⟩, ⟨zK BK302.1⟩, ⟨zB1⟩⟩
  subst c8
  rw [if_pos rfl] at H
  replace H := zO H
  obtain ⟨t304, A9, H⟩ := H
  by_cases c10 : t304 = true
  rotate_left
  ·replace c10 := Bool.eq_false_iff.mpr c10
   subst c10
   rw [if_neg zF] at H
   have H' := zM H
   clear H
   go_wp2_with (first | ((with_reducible refine zG Try.func75 12 #[.slice A0 l0.length c0, .int .i64 24] ?_); (with_reducible refine (spec_l1Words.calls k _ _ l0 24 true _ ?side1 ?side2 A7.1).mono ?_); (case side1 => exact zC (Kd.C_below HR0.1 HB.1)); (case side2 => exact HC0.1); rintro e w' ⟨rfl, ⟨nd, rfl⟩⟩; refine ⟨_, rfl, ?_⟩; have hcz16 := zc_3 (w := w6) BK301.1) | (go_at_call 76; (with_reducible refine (spec_HartOk.calls k _ _ l1_0 a1_1 a1_2 false _ ?side1 ?side2 A9.1).mono ?_); (case side1 => repeat (first | exact (Kd.C_below HR1_0.1 zB1) | (with_reducible refine Kd.C_alloc ?_ _) | (with_reducible refine Kd.C_drewN ?_ _) | (with_reducible refine Kd.C_drew ?_))); (case side2 => exact HC1_0.1); rintro e w17 ⟨rfl, hb⟩; replace BK301 := zM (zb BK301.1 hb); replace BK302 := zM (zb BK302.1 hb); replace HB := zM (below_step zB1 hb); clear hb))
   go_meet
   case rel => exact ⟨_, (true), zJJ, H', ⟨by first | omega | exact Nat.le_refl _⟩, ⟨zK BK301.1⟩, ⟨zK BK302.1⟩, ⟨zB1⟩⟩
  subst c10
  rw [if_pos rfl] at H
  have H' := zM H
  clear H
  go_wp2_with (first | ((with_reducible refine zG Try.func75 12 #[.slice A0 l0.length c0, .int .i64 24] ?_); (with_reducible refine (spec_l1Words.calls k _ _ l0 24 true _ ?side1 ?side2 A7.1).mono ?_); (case side1 => exact zC (Kd.C_below HR0.1 HB.1)); (case side2 => exact HC0.1); rintro e w' ⟨rfl, ⟨nd, rfl⟩⟩; refine ⟨_, rfl, ?_⟩; have hcz12 := zc_3 (w := w6) BK301.1) | (go_at_call 76; (with_reducible refine (spec_HartOk.calls k _ _ l1_0 a1_1 a1_2 true _ ?side1 ?side2 A9.1).mono ?_); (case side1 => repeat (first | exact (Kd.C_below HR1_0.1 zB1) | (with_reducible refine Kd.C_alloc ?_ _) | (with_reducible refine Kd.C_drewN ?_ _) | (with_reducible refine Kd.C_drew ?_))); (case side2 => exact HC1_0.1); rintro e w13 ⟨rfl, hb⟩; replace BK301 := zM (zb BK301.1 hb); replace BK302 := zM (zb BK302.1 hb); replace HB := zM (below_step zB1 hb); clear hb; have hcz14 := zc_3 (w := w13) BK301.1))
  go_meet
  case rel => exact ⟨_, ((a1_2 != 0)), zJJ, H', ⟨by first | omega | exact Nat.le_refl _⟩, ⟨zK BK301.1⟩, ⟨zK BK302.1⟩, ⟨zB1⟩⟩
 case rest =>
  clear HC4
  try clear c1
  try clear p2
  try clear c5
  try clear c7
  try clear c8
  try clear c10
  try clear c11
  try clear c15
  try clear hcz12
  try clear hcz14
  try clear hcz16
  obtain ⟨kq, x23_3, rfl, HA, HJ3, BK301, BK302, HB⟩ := hcut
  cases kq with
  | zero => exact absurd HA.1 (by simp [spec_EventOf.j0])
  | succ kj3 =>
   have H := HA.1
   clear HA
   simp only [spec_EventOf.j0] at H
   by_cases c18 : x23_3 = true
   ·subst c18
    rw [if_pos rfl] at H
    simp only [Option.some.injEq, Prod.mk.injEq] at H
    obtain ⟨rfl, rfl, rfl, rfl, rfl, rfl⟩ := H
    have hcz20 := zc_5 (w := wc) BK302.1
    go_wp2
    refine bodyPost_ret (results_ct rfl _ _ gb302 31 #[.int .i64 0, .int .i64 0, .int .i64 0, .int .i64 0, .int .i64 0] (0, 0) _ rfl (by exact zp5 (zK BK302.1)) Try.underlying31 rfl (by kernel_rfl)) rfl ?_
    exact ⟨zE, zB1⟩
   replace c18 := Bool.eq_false_iff.mpr c18
   subst c18
   rw [if_neg zF] at H
   replace H := zIt H
   obtain ⟨c21b0, H⟩ := H
   replace H := zIt H
   obtain ⟨c22b0, H⟩ := H
   replace H := zO H
   obtain ⟨⟨t306, t307, t308, t309, t310, t311⟩, A23, H⟩ := H
   try dsimp only at H
   replace H := zO H
   obtain ⟨t313, A24, H⟩ := H
   by_cases c25 : t313 < 0
   ·rw [if_pos c25] at H
    have c25b0 := decide_eq_true c25
    clear c25
    simp only [Option.some.injEq, Prod.mk.injEq] at H
    obtain ⟨rfl, rfl, rfl, rfl, rfl, rfl⟩ := H
    have hcz27 := zc_3 (w := wc) BK301.1
    have p305 : 0 ≤ (a1_1 : Int) := zA
    have q305 : a1_1 < (l0.length : Int) := zA
    obtain ⟨ad305, e305, hx305_0⟩ := Kd.at_int HR0.1 a1_1 p305 q305
    cases e305
    replace hx305_0 := (HB.1.cell (World.block_lt_of_cell? w _ hx305_0)).trans hx305_0
    replace p305 := eq_true p305
    replace q305 := eq_true q305
    try go_wp2_with (first | ((with_reducible refine zG Try.func77 31 #[.int .i64 (rd l0 a1_1)] ?_); (with_reducible refine (spec_Decode.calls (rd l0 a1_1) t306 t307 t308 t309 t310 t311 _ A23.1).mono ?_); rintro e w28 ⟨rfl, hb⟩; refine ⟨_, rfl, ?_⟩; replace BK301 := zM (zb BK301.1 hb); replace BK302 := zM (zb BK302.1 hb); replace HB := zM (below_step zB1 hb); clear hb) | ((with_reducible refine zBx 8 71 #[.int .i64 0, .int .i64 0, .int .i64 0, .int .i64 0, .int .i64 0] ?_); intro gb312 hg w29 hbox hb; have BK312 := zM hbox; have GE312 := zM (zW hg (below_size zB1)); replace HB := zM (below_step zB1 hb); have NB301_312 := zM ((zn BK301.1 hg : gb301 ≠ gb312)); replace BK301 := zM (zb BK301.1 hb); have NB302_312 := zM ((zn BK302.1 hg : gb302 ≠ gb312)); replace BK302 := zM (zb BK302.1 hb); clear hb hbox hg; have hcz32 := zc_5 (w := w29) BK312.1))
    have n0_ : Aside0 ((((((w29.setCell ⟨gb312, 0, none⟩ (.int .i64 t306)).setCell ⟨gb312, 1, none⟩ (.int .i64 t307)).setCell ⟨gb312, 2, none⟩ (.int .i64 t308)).setCell ⟨gb312, 3, none⟩ (.int .i64 t309)).setCell ⟨gb312, 4, none⟩ (.int .i64 t310)).heap[gb301]? = some (.cells #[.slice A1_0 l1_0.length c1_0, .int .i64 a1_1, .int .i64 a1_2] 49 (0, 0))) := ⟨by refine zP ?_; refine blk_far ?_ NB301_312.1 _; refine zP ?_; refine blk_far ?_ NB301_312.1 _; refine zP ?_; refine blk_far ?_ NB301_312.1 _; refine zP ?_; refine blk_far ?_ NB301_312.1 _; refine zP ?_; refine blk_far ?_ NB301_312.1 _; refine zP ?_; exact BK301.1⟩
    have n1_ : Aside0 ((((((w29.setCell ⟨gb312, 0, none⟩ (.int .i64 t306)).setCell ⟨gb312, 1, none⟩ (.int .i64 t307)).setCell ⟨gb312, 2, none⟩ (.int .i64 t308)).setCell ⟨gb312, 3, none⟩ (.int .i64 t309)).setCell ⟨gb312, 4, none⟩ (.int .i64 t310)).heap[gb302]? = some (.cells #[.int .i64 0, .int .i64 0, .int .i64 0, .int .i64 0, .int .i64 0] 31 (0, 0))) := ⟨by refine zP ?_; refine blk_far ?_ NB302_312.1 _; refine zP ?_; refine blk_far ?_ NB302_312.1 _; refine zP ?_; refine blk_far ?_ NB302_312.1 _; refine zP ?_; refine blk_far ?_ NB302_312.1 _; refine zP ?_; refine blk_far ?_ NB302_312.1 _; refine zP ?_; exact BK302.1⟩
    have n2_ : Aside0 ((((((w29.setCell ⟨gb312, 0, none⟩ (.int .i64 t306)).setCell ⟨gb312, 1, none⟩ (.int .i64 t307)).setCell ⟨gb312, 2, none⟩ (.int .i64 t308)).setCell ⟨gb312, 3, none⟩ (.int .i64 t309)).setCell ⟨gb312, 4, none⟩ (.int .i64 t310)).heap[gb312]? = some (.cells #[.int .i64 t306, .int .i64 t307, .int .i64 t308, .int .i64 t309, .int .i64 t310] 71 (0, 0))) := ⟨by exact zp5 (zK BK312.1)⟩
    have n3_ : Aside0 (Below w.heap.size w (((((w29.setCell ⟨gb312, 0, none⟩ (.int .i64 t306)).setCell ⟨gb312, 1, none⟩ (.int .i64 t307)).setCell ⟨gb312, 2, none⟩ (.int .i64 t308)).setCell ⟨gb312, 3, none⟩ (.int .i64 t309)).setCell ⟨gb312, 4, none⟩ (.int .i64 t310))) := ⟨zB1⟩
    (try clear BK301)
    (try clear BK302)
    (try clear BK312)
    (try clear HB)
    generalize (((((w29.setCell ⟨gb312, 0, none⟩ (.int .i64 t306)).setCell ⟨gb312, 1, none⟩ (.int .i64 t307)).setCell ⟨gb312, 2, none⟩ (.int .i64 t308)).setCell ⟨gb312, 3, none⟩ (.int .i64 t309)).setCell ⟨gb312, 4, none⟩ (.int .i64 t310)) = w33 at n0_ n1_ n2_ n3_ ⊢
    have BK301 := n0_
    have BK302 := n1_
    have BK312 := n2_
    have HB := n3_
    clear n1_ n3_; try clear n0_; try clear n2_
    replace BK301 := zM (blk_drew BK301.1)
    replace BK302 := zM (blk_drew BK302.1)
    replace BK312 := zM (blk_drew BK312.1)
    replace HB := zM (below_drew1 HB.1)
    refine start_ (n := 10) (S := fun w' => w'.cell? ⟨gb301, 0, none⟩ = some (.slice A1_0 l1_0.length c1_0) ∧ w'.cell? ⟨gb301, 1, none⟩ = some (.int .i64 a1_1) ∧ w'.cell? ⟨gb301, 2, none⟩ = some (.int .i64 a1_2) ∧ w'.cell? ⟨gb312, 0, none⟩ = some (.int .i64 t306) ∧ w'.cell? ⟨gb312, 1, none⟩ = some (.int .i64 t307) ∧ w'.cell? ⟨gb312, 2, none⟩ = some (.int .i64 t308) ∧ w'.cell? ⟨gb312, 3, none⟩ = some (.int .i64 t309) ∧ w'.cell? ⟨gb312, 4, none⟩ = some (.int .i64 t310)) (ds := []) zq7_0 (by kernel_rfl) rfl rfl ⟨(blk_cell BK301.1 0).trans rfl, (blk_cell BK301.1 1).trans rfl, (blk_cell BK301.1 2).trans rfl, (blk_cell BK312.1 0).trans rfl, (blk_cell BK312.1 1).trans rfl, (blk_cell BK312.1 2).trans rfl, (blk_cell BK312.1 3).trans rfl, (blk_cell BK312.1 4).trans rfl⟩ (fun hHeld => ?_); refine with_tabW spec_EventOf.tab4 spec_EventOf.bits4 (fun HT_ HW_ => ?_)
    generalize w33.drew = w34 at BK301 BK302 BK312 HB hHeld ⊢
    refine zPu 0 ?_
    refine zPu 1 ?_
    refine zPu 4 ?_
    refine zTk8 2 hHeld ?_
    refine zTk8 3 hHeld ?_
    refine zTk8 5 hHeld ?_
    refine join_ (σ := Nat) 1 zq7_7 (fun s_ => [(40, .int .i64 t313), (10, .pointer (some ⟨s_, 0, none⟩)), (41, .agg #[.int .i64 a2, .int .i64 a1_1, .int .i64 t313, .int .i64 (-1), .int .i64 (-1)])]) (fun s_ w' => (w'.cell? ⟨gb301, 0, none⟩ = some (.slice A1_0 l1_0.length c1_0) ∧ w'.cell? ⟨gb301, 1, none⟩ = some (.int .i64 a1_1) ∧ w'.cell? ⟨gb301, 2, none⟩ = some (.int .i64 a1_2) ∧ w'.cell? ⟨gb312, 0, none⟩ = some (.int .i64 t306) ∧ w'.cell? ⟨gb312, 1, none⟩ = some (.int .i64 t307) ∧ w'.cell? ⟨gb312, 2, none⟩ = some (.int .i64 t308) ∧ w'.cell? ⟨gb312, 3, none⟩ = some (.int .i64 t309) ∧ w'.cell? ⟨gb312, 4, none⟩ = some (.int .i64 t310)) ∧ (w'.heap[gb301]? = some (.cells #[.slice A1_0 l1_0.length c1_0, .int .i64 a1_1, .int .i64 a1_2] 49 (0, 0))) ∧ (w'.heap[gb302]? = some (.cells #[.int .i64 0, .int .i64 0, .int .i64 0, .int .i64 0, .int .i64 0] 31 (0, 0))) ∧ (w'.heap[gb312]? = some (.cells #[.int .i64 t306, .int .i64 t307, .int .i64 t308, .int .i64 t309, .int .i64 t310] 71 (0, 0))) ∧ (w'.heap[s_]? = some (.cells #[.int .i64 0, .int .i64 0, .int .i64 0, .int .i64 0, .int .i64 0] 31 (0, 0))) ∧ (w.heap.size ≤ s_) ∧ (w.heap.size ≤ s_) ∧ (gb301 ≠ s_) ∧ (s_ ≠ gb301) ∧ (gb302 ≠ s_) ∧ (s_ ≠ gb302) ∧ (gb312 ≠ s_) ∧ (s_ ≠ gb312) ∧ (Below w.heap.size w w')) ?_ ?_
    rotate_left
    ·intro hCont
     refine two_ (i := 6) (j := 8) (Ni := some 40) (Nj := some 10) zq7_8 zq7_9 rfl rfl rfl rfl (two_of HT_.1 (by kernel_rfl)) (by decide) (by decide) (fun K hK => ?_) (fun K hK => ?_)
     ·refine zGs Try.func78 #[.agg #[.int .i64 t306, .int .i64 t307, .int .i64 t308, .int .i64 t309, .int .i64 t310], .slice A1_0 l1_0.length c1_0] ?_
      with_reducible refine (spec_Target.calls t306 t307 t308 t309 t310 _ _ l1_0 t313 _ ?side1 ?side2 A24.1).mono ?_
      (case side1 => exact zC (Kd.C_below HR1_0.1 HB.1))
      (case side2 => exact HC1_0.1)
      rintro e w35 ⟨rfl, hb⟩
      refine ⟨_, rfl, ?_⟩
      replace BK301 := zM (zb BK301.1 hb)
      replace BK302 := zM (zb BK302.1 hb)
      replace BK312 := zM (zb BK312.1 hb)
      replace HB := zM (below_step zB1 hb)
      refine hK.out _ _ zCs fun hHeld => ?_
      clear hK K
      refine zNo ?_
      refine zPu 7 ?_
      refine zOn 8 (some 10) fun K hK => ?_
      refine zBs 10 31 #[.int .i64 0, .int .i64 0, .int .i64 0, .int .i64 0, .int .i64 0] ?_
      intro gb314 hg w36 hbox hb
      replace BK314 := zM hbox
      replace GW314 := zM (zW hg (below_size zB1))
      replace GE314 := zM (zW hg (below_size zB1))
      replace HB := zM (below_step zB1 hb)
      replace NB301_314 := zM ((zn BK301.1 hg : gb301 ≠ gb314))
      replace NB314_301 := zM ((zm BK301.1 hg : gb314 ≠ gb301))
      replace BK301 := zM (zb BK301.1 hb)
      replace NB302_314 := zM ((zn BK302.1 hg : gb302 ≠ gb314))
      replace NB314_302 := zM ((zm BK302.1 hg : gb314 ≠ gb302))
      replace BK302 := zM (zb BK302.1 hb)
      replace NB312_314 := zM ((zn BK312.1 hg : gb312 ≠ gb314))
      replace NB314_312 := zM ((zm BK312.1 hg : gb314 ≠ gb312))
      replace BK312 := zM (zb BK312.1 hb)
      refine hK.out _ _ zCs fun hHeld => ?_
      clear hK K
      refine zNo ?_
      exact norm_ zNr (hCont (gb314) _ ⟨hHeld, (zK BK301.1), (zK BK302.1), (zK BK312.1), (zK BK314.1), GW314.1, GE314.1, NB301_314.1, NB314_301.1, NB302_314.1, NB314_302.1, NB312_314.1, NB314_312.1, zB1⟩)
     ·refine zBs 10 31 #[.int .i64 0, .int .i64 0, .int .i64 0, .int .i64 0, .int .i64 0] ?_
      intro gb314 hg w35 hbox hb
      replace BK314 := zM hbox
      replace GW314 := zM (zW hg (below_size zB1))
      replace GE314 := zM (zW hg (below_size zB1))
      replace HB := zM (below_step zB1 hb)
      replace NB301_314 := zM ((zn BK301.1 hg : gb301 ≠ gb314))
      replace NB314_301 := zM ((zm BK301.1 hg : gb314 ≠ gb301))
      replace BK301 := zM (zb BK301.1 hb)
      replace NB302_314 := zM ((zn BK302.1 hg : gb302 ≠ gb314))
      replace NB314_302 := zM ((zm BK302.1 hg : gb314 ≠ gb302))
      replace BK302 := zM (zb BK302.1 hb)
      replace NB312_314 := zM ((zn BK312.1 hg : gb312 ≠ gb314))
      replace NB314_312 := zM ((zm BK312.1 hg : gb314 ≠ gb312))
      replace BK312 := zM (zb BK312.1 hb)
      refine hK.out _ _ zCs fun hHeld => ?_
      clear hK K
      refine zNo ?_
      refine zOn 6 (some 40) fun K hK => ?_
      refine zGs Try.func78 #[.agg #[.int .i64 t306, .int .i64 t307, .int .i64 t308, .int .i64 t309, .int .i64 t310], .slice A1_0 l1_0.length c1_0] ?_
      with_reducible refine (spec_Target.calls t306 t307 t308 t309 t310 _ _ l1_0 t313 _ ?side1 ?side2 A24.1).mono ?_
      (case side1 => exact zC (Kd.C_below HR1_0.1 HB.1))
      (case side2 => exact HC1_0.1)
      rintro e w36 ⟨rfl, hb⟩
      refine ⟨_, rfl, ?_⟩
      replace BK301 := zM (zb BK301.1 hb)
      replace BK302 := zM (zb BK302.1 hb)
      replace BK312 := zM (zb BK312.1 hb)
      replace BK314 := zM (zb BK314.1 hb)
      replace HB := zM (below_step zB1 hb)
      refine hK.out _ _ zCs fun hHeld => ?_
      clear hK K
      refine zNo ?_
      refine zPu 7 ?_
      exact norm_ zNr (hCont (gb314) _ ⟨hHeld, (zK BK301.1), (zK BK302.1), (zK BK312.1), (zK BK314.1), GW314.1, GE314.1, NB301_314.1, NB314_301.1, NB302_314.1, NB314_302.1, NB312_314.1, NB314_312.1, zB1⟩)
    rintro gb314 w37 ⟨hS_, h0_, h1_, h2_, h3_, h4_, h5_, h6_, h7_, h8_, h9_, h10_, h11_, h12_⟩
    replace BK302 := zM h1_
    replace BK314 := zM h3_
    replace GE314 := zM h5_
    replace NB301_314 := zM h6_
    replace NB302_314 := zM h8_
    replace NB312_314 := zM h10_
    replace NB314_312 := zM h11_
    replace HB := zM h12_
    try clear BK301; try clear BK312
    have hHeld : w37.cell? ⟨gb301, 0, none⟩ = some (.slice A1_0 l1_0.length c1_0) ∧ w37.cell? ⟨gb301, 1, none⟩ = some (.int .i64 a1_1) ∧ w37.cell? ⟨gb301, 2, none⟩ = some (.int .i64 a1_2) ∧ w37.cell? ⟨gb312, 0, none⟩ = some (.int .i64 t306) ∧ w37.cell? ⟨gb312, 1, none⟩ = some (.int .i64 t307) ∧ w37.cell? ⟨gb312, 2, none⟩ = some (.int .i64 t308) ∧ w37.cell? ⟨gb312, 3, none⟩ = some (.int .i64 t309) ∧ w37.cell? ⟨gb312, 4, none⟩ = some (.int .i64 t310) := hS_
    refine zNp ?_
    refine zOn 9 none fun K hK => ?_
    obtain ⟨hs38, hfs38⟩ := zHs BK314.1 0
    obtain ⟨hs39, hfs39⟩ := zHs BK314.1 1
    obtain ⟨hs40, hfs40⟩ := zHs BK314.1 2
    obtain ⟨hs41, hfs41⟩ := zHs BK314.1 3
    obtain ⟨hs42, hfs42⟩ := zHs BK314.1 4
    refine skip_ (w1 := ?_) (by rfl) rfl ?_ ?_
    rotate_left
    ·go_simp
     rfl
    refine hK.out _ _ zCs fun hHeld => ?_
    clear hK K
    refine done_ (done_of HT_.1 (by kernel_rfl)) ?_
    have hnc44 := NB302_314.1
    have hnb45 := NB314_312.1
    have hnc45 := NB312_314.1
    have hcz47 := zc_5 (w := w37) BK302.1
    try go_wp2
    refine bodyPost_ret (results_ct rfl _ _ gb302 31 #[.int .i64 a2, .int .i64 a1_1, .int .i64 t313, .int .i64 (-1), .int .i64 (-1)] (0, 0) _ rfl (by refine zP ?_; refine blk_put (cs := #[.int .i64 a2, .int .i64 a1_1, .int .i64 t313, .int .i64 (-1), .int .i64 0]) ?_ 4 _ rfl; refine zP ?_; refine blk_put (cs := #[.int .i64 a2, .int .i64 a1_1, .int .i64 t313, .int .i64 0, .int .i64 0]) ?_ 3 _ rfl; refine zP ?_; refine blk_put (cs := #[.int .i64 a2, .int .i64 a1_1, .int .i64 0, .int .i64 0, .int .i64 0]) ?_ 2 _ rfl; refine zP ?_; refine blk_put (cs := #[.int .i64 a2, .int .i64 0, .int .i64 0, .int .i64 0, .int .i64 0]) ?_ 1 _ rfl; refine zP ?_; refine blk_put (cs := #[.int .i64 0, .int .i64 0, .int .i64 0, .int .i64 0, .int .i64 0]) ?_ 0 _ rfl; refine zP ?_; refine blk_far ?_ NB302_314.1 _; refine zP ?_; refine blk_far ?_ NB302_314.1 _; refine zP ?_; refine blk_far ?_ NB302_314.1 _; refine zP ?_; refine blk_far ?_ NB302_314.1 _; refine zP ?_; refine blk_far ?_ NB302_314.1 _; refine zP ?_; exact BK302.1) Try.underlying31 rfl (by kernel_rfl)) rfl ?_
    exact ⟨zE, zB1⟩
   rw [if_neg c25] at H
   have c25b0 := decide_eq_false c25
   clear c25
   replace H := zIt H
   obtain ⟨c48b0, H⟩ := H
   replace H := zIt H
   obtain ⟨c49b0, H⟩ := H
   replace H := zO H
   obtain ⟨⟨t316, t319, t320, t321⟩, A50, H⟩ := H
   try dsimp only at H
   by_cases c51 : t306 = 5
   ·rw [if_pos c51] at H
    have c51b1 : (t306 != 5) = false := bne_eq_false_iff_eq.mpr c51
    clear c51
    simp only [Option.some.injEq, Prod.mk.injEq] at H
    obtain ⟨rfl, rfl, rfl, rfl, rfl, rfl⟩ := H
    have hcz53 := zc_3 (w := wc) BK301.1
    have p305 : 0 ≤ (a1_1 : Int) := zA
    have q305 : a1_1 < (l0.length : Int) := zA
    obtain ⟨ad305, e305, hx305_0⟩ := Kd.at_int HR0.1 a1_1 p305 q305
    cases e305
    replace hx305_0 := (HB.1.cell (World.block_lt_of_cell? w _ hx305_0)).trans hx305_0
    replace p305 := eq_true p305
    replace q305 := eq_true q305
    try go_wp2_with (first | ((with_reducible refine zG Try.func77 31 #[.int .i64 (rd l0 a1_1)] ?_); (with_reducible refine (spec_Decode.calls (rd l0 a1_1) t306 t307 t308 t309 t310 t311 _ A23.1).mono ?_); rintro e w54 ⟨rfl, hb⟩; refine ⟨_, rfl, ?_⟩; replace BK301 := zM (zb BK301.1 hb); replace BK302 := zM (zb BK302.1 hb); replace HB := zM (below_step zB1 hb); clear hb) | ((with_reducible refine zBx 8 71 #[.int .i64 0, .int .i64 0, .int .i64 0, .int .i64 0, .int .i64 0] ?_); intro gb312 hg w55 hbox hb; have BK312 := zM hbox; have GE312 := zM (zW hg (below_size zB1)); replace HB := zM (below_step zB1 hb); have NB301_312 := zM ((zn BK301.1 hg : gb301 ≠ gb312)); replace BK301 := zM (zb BK301.1 hb); have NB302_312 := zM ((zn BK302.1 hg : gb302 ≠ gb312)); replace BK302 := zM (zb BK302.1 hb); clear hb hbox hg; have hcz58 := zc_5 (w := w55) BK312.1))
    have n0_ : Aside0 ((((((w55.setCell ⟨gb312, 0, none⟩ (.int .i64 t306)).setCell ⟨gb312, 1, none⟩ (.int .i64 t307)).setCell ⟨gb312, 2, none⟩ (.int .i64 t308)).setCell ⟨gb312, 3, none⟩ (.int .i64 t309)).setCell ⟨gb312, 4, none⟩ (.int .i64 t310)).heap[gb301]? = some (.cells #[.slice A1_0 l1_0.length c1_0, .int .i64 a1_1, .int .i64 a1_2] 49 (0, 0))) := ⟨by refine zP ?_; refine blk_far ?_ NB301_312.1 _; refine zP ?_; refine blk_far ?_ NB301_312.1 _; refine zP ?_; refine blk_far ?_ NB301_312.1 _; refine zP ?_; refine blk_far ?_ NB301_312.1 _; refine zP ?_; refine blk_far ?_ NB301_312.1 _; refine zP ?_; exact BK301.1⟩
    have n1_ : Aside0 ((((((w55.setCell ⟨gb312, 0, none⟩ (.int .i64 t306)).setCell ⟨gb312, 1, none⟩ (.int .i64 t307)).setCell ⟨gb312, 2, none⟩ (.int .i64 t308)).setCell ⟨gb312, 3, none⟩ (.int .i64 t309)).setCell ⟨gb312, 4, none⟩ (.int .i64 t310)).heap[gb302]? = some (.cells #[.int .i64 0, .int .i64 0, .int .i64 0, .int .i64 0, .int .i64 0] 31 (0, 0))) := ⟨by refine zP ?_; refine blk_far ?_ NB302_312.1 _; refine zP ?_; refine blk_far ?_ NB302_312.1 _; refine zP ?_; refine blk_far ?_ NB302_312.1 _; refine zP ?_; refine blk_far ?_ NB302_312.1 _; refine zP ?_; refine blk_far ?_ NB302_312.1 _; refine zP ?_; exact BK302.1⟩
    have n2_ : Aside0 ((((((w55.setCell ⟨gb312, 0, none⟩ (.int .i64 t306)).setCell ⟨gb312, 1, none⟩ (.int .i64 t307)).setCell ⟨gb312, 2, none⟩ (.int .i64 t308)).setCell ⟨gb312, 3, none⟩ (.int .i64 t309)).setCell ⟨gb312, 4, none⟩ (.int .i64 t310)).heap[gb312]? = some (.cells #[.int .i64 t306, .int .i64 t307, .int .i64 t308, .int .i64 t309, .int .i64 t310] 71 (0, 0))) := ⟨by exact zp5 (zK BK312.1)⟩
    have n3_ : Aside0 (Below w.heap.size w (((((w55.setCell ⟨gb312, 0, none⟩ (.int .i64 t306)).setCell ⟨gb312, 1, none⟩ (.int .i64 t307)).setCell ⟨gb312, 2, none⟩ (.int .i64 t308)).setCell ⟨gb312, 3, none⟩ (.int .i64 t309)).setCell ⟨gb312, 4, none⟩ (.int .i64 t310))) := ⟨zB1⟩
    (try clear BK301)
    (try clear BK302)
    (try clear BK312)
    (try clear HB)
    generalize (((((w55.setCell ⟨gb312, 0, none⟩ (.int .i64 t306)).setCell ⟨gb312, 1, none⟩ (.int .i64 t307)).setCell ⟨gb312, 2, none⟩ (.int .i64 t308)).setCell ⟨gb312, 3, none⟩ (.int .i64 t309)).setCell ⟨gb312, 4, none⟩ (.int .i64 t310)) = w59 at n0_ n1_ n2_ n3_ ⊢
    have BK301 := n0_
    have BK302 := n1_
    have BK312 := n2_
    have HB := n3_
    clear n1_ n3_; try clear n0_; try clear n2_
    replace BK301 := zM (blk_drew BK301.1)
    replace BK302 := zM (blk_drew BK302.1)
    replace BK312 := zM (blk_drew BK312.1)
    replace HB := zM (below_drew1 HB.1)
    refine start_ (n := 10) (S := fun w' => w'.cell? ⟨gb301, 0, none⟩ = some (.slice A1_0 l1_0.length c1_0) ∧ w'.cell? ⟨gb301, 1, none⟩ = some (.int .i64 a1_1) ∧ w'.cell? ⟨gb301, 2, none⟩ = some (.int .i64 a1_2) ∧ w'.cell? ⟨gb312, 0, none⟩ = some (.int .i64 t306) ∧ w'.cell? ⟨gb312, 1, none⟩ = some (.int .i64 t307) ∧ w'.cell? ⟨gb312, 2, none⟩ = some (.int .i64 t308) ∧ w'.cell? ⟨gb312, 3, none⟩ = some (.int .i64 t309) ∧ w'.cell? ⟨gb312, 4, none⟩ = some (.int .i64 t310)) (ds := []) zq7_0 (by kernel_rfl) rfl rfl ⟨(blk_cell BK301.1 0).trans rfl, (blk_cell BK301.1 1).trans rfl, (blk_cell BK301.1 2).trans rfl, (blk_cell BK312.1 0).trans rfl, (blk_cell BK312.1 1).trans rfl, (blk_cell BK312.1 2).trans rfl, (blk_cell BK312.1 3).trans rfl, (blk_cell BK312.1 4).trans rfl⟩ (fun hHeld => ?_); refine with_tabW spec_EventOf.tab4 spec_EventOf.bits4 (fun HT_ HW_ => ?_)
    generalize w59.drew = w60 at BK301 BK302 BK312 HB hHeld ⊢
    refine zPu 0 ?_
    refine zPu 1 ?_
    refine zPu 4 ?_
    refine zTk8 2 hHeld ?_
    refine zTk8 3 hHeld ?_
    refine zTk8 5 hHeld ?_
    refine join_ (σ := Nat) 1 zq7_7 (fun s_ => [(40, .int .i64 t313), (10, .pointer (some ⟨s_, 0, none⟩)), (41, .agg #[.int .i64 a2, .int .i64 a1_1, .int .i64 t313, .int .i64 (-1), .int .i64 (-1)])]) (fun s_ w' => (w'.cell? ⟨gb301, 0, none⟩ = some (.slice A1_0 l1_0.length c1_0) ∧ w'.cell? ⟨gb301, 1, none⟩ = some (.int .i64 a1_1) ∧ w'.cell? ⟨gb301, 2, none⟩ = some (.int .i64 a1_2) ∧ w'.cell? ⟨gb312, 0, none⟩ = some (.int .i64 t306) ∧ w'.cell? ⟨gb312, 1, none⟩ = some (.int .i64 t307) ∧ w'.cell? ⟨gb312, 2, none⟩ = some (.int .i64 t308) ∧ w'.cell? ⟨gb312, 3, none⟩ = some (.int .i64 t309) ∧ w'.cell? ⟨gb312, 4, none⟩ = some (.int .i64 t310)) ∧ (w'.heap[gb301]? = some (.cells #[.slice A1_0 l1_0.length c1_0, .int .i64 a1_1, .int .i64 a1_2] 49 (0, 0))) ∧ (w'.heap[gb302]? = some (.cells #[.int .i64 0, .int .i64 0, .int .i64 0, .int .i64 0, .int .i64 0] 31 (0, 0))) ∧ (w'.heap[gb312]? = some (.cells #[.int .i64 t306, .int .i64 t307, .int .i64 t308, .int .i64 t309, .int .i64 t310] 71 (0, 0))) ∧ (w'.heap[s_]? = some (.cells #[.int .i64 0, .int .i64 0, .int .i64 0, .int .i64 0, .int .i64 0] 31 (0, 0))) ∧ (w.heap.size ≤ s_) ∧ (w.heap.size ≤ s_) ∧ (gb301 ≠ s_) ∧ (s_ ≠ gb301) ∧ (gb302 ≠ s_) ∧ (s_ ≠ gb302) ∧ (gb312 ≠ s_) ∧ (s_ ≠ gb312) ∧ (Below w.heap.size w w')) ?_ ?_
    rotate_left
    ·intro hCont
     refine two_ (i := 6) (j := 8) (Ni := some 40) (Nj := some 10) zq7_8 zq7_9 rfl rfl rfl rfl (two_of HT_.1 (by kernel_rfl)) (by decide) (by decide) (fun K hK => ?_) (fun K hK => ?_)
     ·refine zGs Try.func78 #[.agg #[.int .i64 t306, .int .i64 t307, .int .i64 t308, .int .i64 t309, .int .i64 t310], .slice A1_0 l1_0.length c1_0] ?_
      with_reducible refine (spec_Target.calls t306 t307 t308 t309 t310 _ _ l1_0 t313 _ ?side1 ?side2 A24.1).mono ?_
      (case side1 => exact zC (Kd.C_below HR1_0.1 HB.1))
      (case side2 => exact HC1_0.1)
      rintro e w61 ⟨rfl, hb⟩
      refine ⟨_, rfl, ?_⟩
      replace BK301 := zM (zb BK301.1 hb)
      replace BK302 := zM (zb BK302.1 hb)
      replace BK312 := zM (zb BK312.1 hb)
      replace HB := zM (below_step zB1 hb)
      refine hK.out _ _ zCs fun hHeld => ?_
      clear hK K
      refine zNo ?_
      refine zPu 7 ?_
      refine zOn 8 (some 10) fun K hK => ?_
      refine zBs 10 31 #[.int .i64 0, .int .i64 0, .int .i64 0, .int .i64 0, .int .i64 0] ?_
      intro gb314 hg w62 hbox hb
      replace BK314 := zM hbox
      replace GW314 := zM (zW hg (below_size zB1))
      replace GE314 := zM (zW hg (below_size zB1))
      replace HB := zM (below_step zB1 hb)
      replace NB301_314 := zM ((zn BK301.1 hg : gb301 ≠ gb314))
      replace NB314_301 := zM ((zm BK301.1 hg : gb314 ≠ gb301))
      replace BK301 := zM (zb BK301.1 hb)
      replace NB302_314 := zM ((zn BK302.1 hg : gb302 ≠ gb314))
      replace NB314_302 := zM ((zm BK302.1 hg : gb314 ≠ gb302))
      replace BK302 := zM (zb BK302.1 hb)
      replace NB312_314 := zM ((zn BK312.1 hg : gb312 ≠ gb314))
      replace NB314_312 := zM ((zm BK312.1 hg : gb314 ≠ gb312))
      replace BK312 := zM (zb BK312.1 hb)
      refine hK.out _ _ zCs fun hHeld => ?_
      clear hK K
      refine zNo ?_
      exact norm_ zNr (hCont (gb314) _ ⟨hHeld, (zK BK301.1), (zK BK302.1), (zK BK312.1), (zK BK314.1), GW314.1, GE314.1, NB301_314.1, NB314_301.1, NB302_314.1, NB314_302.1, NB312_314.1, NB314_312.1, zB1⟩)
     ·refine zBs 10 31 #[.int .i64 0, .int .i64 0, .int .i64 0, .int .i64 0, .int .i64 0] ?_
      intro gb314 hg w61 hbox hb
      replace BK314 := zM hbox
      replace GW314 := zM (zW hg (below_size zB1))
      replace GE314 := zM (zW hg (below_size zB1))
      replace HB := zM (below_step zB1 hb)
      replace NB301_314 := zM ((zn BK301.1 hg : gb301 ≠ gb314))
      replace NB314_301 := zM ((zm BK301.1 hg : gb314 ≠ gb301))
      replace BK301 := zM (zb BK301.1 hb)
      replace NB302_314 := zM ((zn BK302.1 hg : gb302 ≠ gb314))
      replace NB314_302 := zM ((zm BK302.1 hg : gb314 ≠ gb302))
      replace BK302 := zM (zb BK302.1 hb)
      replace NB312_314 := zM ((zn BK312.1 hg : gb312 ≠ gb314))
      replace NB314_312 := zM ((zm BK312.1 hg : gb314 ≠ gb312))
      replace BK312 := zM (zb BK312.1 hb)
      refine hK.out _ _ zCs fun hHeld => ?_
      clear hK K
      refine zNo ?_
      refine zOn 6 (some 40) fun K hK => ?_
      refine zGs Try.func78 #[.agg #[.int .i64 t306, .int .i64 t307, .int .i64 t308, .int .i64 t309, .int .i64 t310], .slice A1_0 l1_0.length c1_0] ?_
      with_reducible refine (spec_Target.calls t306 t307 t308 t309 t310 _ _ l1_0 t313 _ ?side1 ?side2 A24.1).mono ?_
      (case side1 => exact zC (Kd.C_below HR1_0.1 HB.1))
      (case side2 => exact HC1_0.1)
      rintro e w62 ⟨rfl, hb⟩
      refine ⟨_, rfl, ?_⟩
      replace BK301 := zM (zb BK301.1 hb)
      replace BK302 := zM (zb BK302.1 hb)
      replace BK312 := zM (zb BK312.1 hb)
      replace BK314 := zM (zb BK314.1 hb)
      replace HB := zM (below_step zB1 hb)
      refine hK.out _ _ zCs fun hHeld => ?_
      clear hK K
      refine zNo ?_
      refine zPu 7 ?_
      exact norm_ zNr (hCont (gb314) _ ⟨hHeld, (zK BK301.1), (zK BK302.1), (zK BK312.1), (zK BK314.1), GW314.1, GE314.1, NB301_314.1, NB314_301.1, NB302_314.1, NB314_302.1, NB312_314.1, NB314_312.1, zB1⟩)
    rintro gb314 w63 ⟨hS_, h0_, h1_, h2_, h3_, h4_, h5_, h6_, h7_, h8_, h9_, h10_, h11_, h12_⟩
    replace BK301 := zM h0_
    replace BK302 := zM h1_
    replace BK312 := zM h2_
    replace BK314 := zM h3_
    replace GE314 := zM h5_
    replace NB301_314 := zM h6_
    replace NB302_314 := zM h8_
    replace NB314_302 := zM h9_
    replace NB312_314 := zM h10_
    replace NB314_312 := zM h11_
    replace HB := zM h12_
    have hHeld : w63.cell? ⟨gb301, 0, none⟩ = some (.slice A1_0 l1_0.length c1_0) ∧ w63.cell? ⟨gb301, 1, none⟩ = some (.int .i64 a1_1) ∧ w63.cell? ⟨gb301, 2, none⟩ = some (.int .i64 a1_2) ∧ w63.cell? ⟨gb312, 0, none⟩ = some (.int .i64 t306) ∧ w63.cell? ⟨gb312, 1, none⟩ = some (.int .i64 t307) ∧ w63.cell? ⟨gb312, 2, none⟩ = some (.int .i64 t308) ∧ w63.cell? ⟨gb312, 3, none⟩ = some (.int .i64 t309) ∧ w63.cell? ⟨gb312, 4, none⟩ = some (.int .i64 t310) := hS_
    refine zNp ?_
    refine zOn 9 none fun K hK => ?_
    obtain ⟨hs64, hfs64⟩ := zHs BK314.1 0
    obtain ⟨hs65, hfs65⟩ := zHs BK314.1 1
    obtain ⟨hs66, hfs66⟩ := zHs BK314.1 2
    obtain ⟨hs67, hfs67⟩ := zHs BK314.1 3
    obtain ⟨hs68, hfs68⟩ := zHs BK314.1 4
    refine skip_ (w1 := ?_) (by rfl) rfl ?_ ?_
    rotate_left
    ·go_simp
     rfl
    refine hK.out _ _ zCs fun hHeld => ?_
    clear hK K
    refine done_ (done_of HT_.1 (by kernel_rfl)) ?_
    try go_wp2
    have n0_ : Aside0 ((((((w63.setCell ⟨gb314, 0, none⟩ (.int .i64 a2)).setCell ⟨gb314, 1, none⟩ (.int .i64 a1_1)).setCell ⟨gb314, 2, none⟩ (.int .i64 t313)).setCell ⟨gb314, 3, none⟩ (.int .i64 (-1))).setCell ⟨gb314, 4, none⟩ (.int .i64 (-1))).heap[gb301]? = some (.cells #[.slice A1_0 l1_0.length c1_0, .int .i64 a1_1, .int .i64 a1_2] 49 (0, 0))) := ⟨by refine zP ?_; refine blk_far ?_ NB301_314.1 _; refine zP ?_; refine blk_far ?_ NB301_314.1 _; refine zP ?_; refine blk_far ?_ NB301_314.1 _; refine zP ?_; refine blk_far ?_ NB301_314.1 _; refine zP ?_; refine blk_far ?_ NB301_314.1 _; refine zP ?_; exact BK301.1⟩
    have n1_ : Aside0 ((((((w63.setCell ⟨gb314, 0, none⟩ (.int .i64 a2)).setCell ⟨gb314, 1, none⟩ (.int .i64 a1_1)).setCell ⟨gb314, 2, none⟩ (.int .i64 t313)).setCell ⟨gb314, 3, none⟩ (.int .i64 (-1))).setCell ⟨gb314, 4, none⟩ (.int .i64 (-1))).heap[gb302]? = some (.cells #[.int .i64 0, .int .i64 0, .int .i64 0, .int .i64 0, .int .i64 0] 31 (0, 0))) := ⟨by refine zP ?_; refine blk_far ?_ NB302_314.1 _; refine zP ?_; refine blk_far ?_ NB302_314.1 _; refine zP ?_; refine blk_far ?_ NB302_314.1 _; refine zP ?_; refine blk_far ?_ NB302_314.1 _; refine zP ?_; refine blk_far ?_ NB302_314.1 _; refine zP ?_; exact BK302.1⟩
    have n2_ : Aside0 ((((((w63.setCell ⟨gb314, 0, none⟩ (.int .i64 a2)).setCell ⟨gb314, 1, none⟩ (.int .i64 a1_1)).setCell ⟨gb314, 2, none⟩ (.int .i64 t313)).setCell ⟨gb314, 3, none⟩ (.int .i64 (-1))).setCell ⟨gb314, 4, none⟩ (.int .i64 (-1))).heap[gb312]? = some (.cells #[.int .i64 t306, .int .i64 t307, .int .i64 t308, .int .i64 t309, .int .i64 t310] 71 (0, 0))) := ⟨by refine zP ?_; refine blk_far ?_ NB312_314.1 _; refine zP ?_; refine blk_far ?_ NB312_314.1 _; refine zP ?_; refine blk_far ?_ NB312_314.1 _; refine zP ?_; refine blk_far ?_ NB312_314.1 _; refine zP ?_; refine blk_far ?_ NB312_314.1 _; refine zP ?_; exact BK312.1⟩
    have n3_ : Aside0 ((((((w63.setCell ⟨gb314, 0, none⟩ (.int .i64 a2)).setCell ⟨gb314, 1, none⟩ (.int .i64 a1_1)).setCell ⟨gb314, 2, none⟩ (.int .i64 t313)).setCell ⟨gb314, 3, none⟩ (.int .i64 (-1))).setCell ⟨gb314, 4, none⟩ (.int .i64 (-1))).heap[gb314]? = some (.cells #[.int .i64 a2, .int .i64 a1_1, .int .i64 t313, .int .i64 (-1), .int .i64 (-1)] 31 (0, 0))) := ⟨by exact zp5 (zK BK314.1)⟩
    have n4_ : Aside0 (Below w.heap.size w (((((w63.setCell ⟨gb314, 0, none⟩ (.int .i64 a2)).setCell ⟨gb314, 1, none⟩ (.int .i64 a1_1)).setCell ⟨gb314, 2, none⟩ (.int .i64 t313)).setCell ⟨gb314, 3, none⟩ (.int .i64 (-1))).setCell ⟨gb314, 4, none⟩ (.int .i64 (-1)))) := ⟨zB1⟩
    (try clear BK301)
    (try clear BK302)
    (try clear BK312)
    (try clear BK314)
    (try clear HB)
    generalize (((((w63.setCell ⟨gb314, 0, none⟩ (.int .i64 a2)).setCell ⟨gb314, 1, none⟩ (.int .i64 a1_1)).setCell ⟨gb314, 2, none⟩ (.int .i64 t313)).setCell ⟨gb314, 3, none⟩ (.int .i64 (-1))).setCell ⟨gb314, 4, none⟩ (.int .i64 (-1))) = w73 at n0_ n1_ n2_ n3_ n4_ ⊢
    have BK301 := n0_
    have BK302 := n1_
    have BK312 := n2_
    have BK314 := n3_
    have HB := n4_
    clear n1_ n3_; try clear n0_; try clear n2_; try clear n4_
    replace BK301 := zM (blk_drew BK301.1)
    replace BK302 := zM (blk_drew BK302.1)
    replace BK312 := zM (blk_drew BK312.1)
    replace BK314 := zM (blk_drew BK314.1)
    replace HB := zM (below_drew1 HB.1)
    have p315 : 0 ≤ (t313 : Int) := zA
    have q315 : t313 < (l0.length : Int) := zA
    obtain ⟨ad315, e315, hx315_0⟩ := Kd.at_int HR0.1 t313 p315 q315
    have hw315_0 := hx315_0
    obtain rfl : ad305 = ad315 := (by injection e315)
    replace hx315_0 := (HB.1.cell (World.block_lt_of_cell? w _ hx315_0)).trans hx315_0
    replace p315 := eq_true p315
    replace q315 := eq_true q315
    refine start_ (n := 13) (S := fun w' => w'.cell? ⟨gb301, 0, none⟩ = some (.slice A1_0 l1_0.length c1_0) ∧ w'.cell? ⟨gb301, 1, none⟩ = some (.int .i64 a1_1) ∧ w'.cell? ⟨gb301, 2, none⟩ = some (.int .i64 a1_2) ∧ w'.cell? ⟨gb312, 0, none⟩ = some (.int .i64 t306) ∧ w'.cell? ⟨gb312, 1, none⟩ = some (.int .i64 t307) ∧ w'.cell? ⟨gb312, 2, none⟩ = some (.int .i64 t308) ∧ w'.cell? ⟨gb312, 3, none⟩ = some (.int .i64 t309) ∧ w'.cell? ⟨gb312, 4, none⟩ = some (.int .i64 t310) ∧ w'.cell? ⟨gb314, 0, none⟩ = some (.int .i64 a2) ∧ w'.cell? ⟨gb314, 1, none⟩ = some (.int .i64 a1_1) ∧ w'.cell? ⟨gb314, 2, none⟩ = some (.int .i64 t313) ∧ w'.cell? ⟨gb314, 3, none⟩ = some (.int .i64 (-1)) ∧ w'.cell? ⟨gb314, 4, none⟩ = some (.int .i64 (-1)) ∧ w'.cell? (ad305.add (t313).toNat) = some (.int .i64 (rd l0 t313))) (ds := [12]) zq7_13 (by kernel_rfl) rfl rfl ⟨(blk_cell BK301.1 0).trans rfl, (blk_cell BK301.1 1).trans rfl, (blk_cell BK301.1 2).trans rfl, (blk_cell BK312.1 0).trans rfl, (blk_cell BK312.1 1).trans rfl, (blk_cell BK312.1 2).trans rfl, (blk_cell BK312.1 3).trans rfl, (blk_cell BK312.1 4).trans rfl, (blk_cell BK314.1 0).trans rfl, (blk_cell BK314.1 1).trans rfl, (blk_cell BK314.1 2).trans rfl, (blk_cell BK314.1 3).trans rfl, (blk_cell BK314.1 4).trans rfl, ((HB.1.cell (World.block_lt_of_cell? w _ hw315_0)).trans hw315_0)⟩ (fun hHeld => ?_); refine with_tabW spec_EventOf.tab7 spec_EventOf.bits7 (fun HT_ HW_ => ?_)
    generalize w73.drew = w74 at BK301 BK302 BK312 BK314 HB hx315_0 hHeld ⊢
    refine zPu 2 ?_
    refine zPu 3 ?_
    refine zTk14 0 hHeld ?_
    refine zTk14 1 hHeld ?_
    refine zTk14 4 hHeld ?_
    refine zPu 5 ?_
    refine zTk14 6 hHeld ?_
    refine zOn 7 (some 54) fun K hK => ?_
    refine zGs Try.func79 #[.agg #[.slice A1_0 l1_0.length c1_0, .int .i64 a1_1, .int .i64 a1_2], .agg #[.int .i64 t306, .int .i64 t307, .int .i64 t308, .int .i64 t309, .int .i64 t310], .int .i64 (rd l0 t313)] ?_
    with_reducible refine (spec_Work.calls kj3 _ _ l1_0 a1_1 a1_2 t306 t307 t308 t309 t310 (rd l0 t313) t316 t319 t320 t321 _ ?side1 ?side2 A50.1).mono ?_
    (case side1 => exact zC (Kd.C_below HR1_0.1 HB.1))
    (case side2 => exact HC1_0.1)
    rintro e w75 ⟨v317, rfl, ho0, hb⟩
    refine ⟨_, rfl, ?_⟩
    replace BK301 := zM (zb BK301.1 hb)
    replace BK302 := zM (zb BK302.1 hb)
    replace BK312 := zM (zb BK312.1 hb)
    replace BK314 := zM (zb BK314.1 hb)
    replace HB := zM (below_step zB1 hb)
    (try clear ho0)
    refine hK.out _ _ ⟨(blk_cell BK301.1 0).trans rfl, (blk_cell BK301.1 1).trans rfl, (blk_cell BK301.1 2).trans rfl, (blk_cell BK312.1 0).trans rfl, (blk_cell BK312.1 1).trans rfl, (blk_cell BK312.1 2).trans rfl, (blk_cell BK312.1 3).trans rfl, (blk_cell BK312.1 4).trans rfl, (blk_cell BK314.1 0).trans rfl, (blk_cell BK314.1 1).trans rfl, (blk_cell BK314.1 2).trans rfl, (blk_cell BK314.1 3).trans rfl, (blk_cell BK314.1 4).trans rfl, ((HB.1.cell (World.block_lt_of_cell? w _ hw315_0)).trans hw315_0)⟩ (fun hHeld => ?_)
    clear hK K
    refine zNo ?_
    refine zPu 8 ?_
    refine zPu 9 ?_
    refine zPu 10 ?_
    refine zPu 11 ?_
    refine last_ (i := 12) (N := none) zq7_26 rfl rfl (one_of HT_.1 (by kernel_rfl)) (by decide) (fun K hK => ?_)
    have hfs76 := blk_frozen BK314.1 4
    have hms76_1 := NB314_302.1
    have hms76_2 := NB314_312.1
    refine skip_ (w1 := ?_) (by rfl) rfl ?_ ?_
    rotate_left
    ·go_simp
     rfl
    refine hK.out _ _ ?_
    clear hK K
    refine done_ (done_of HT_.1 (by kernel_rfl)) ?_
    have hcz79 := zc_5 (w := w75) BK302.1
    try go_wp2
    refine bodyPost_ret (results_ct rfl _ _ gb302 31 #[.int .i64 a2, .int .i64 a1_1, .int .i64 t313, .int .i64 (-1), .int .i64 t321] (0, 0) _ rfl (by refine zP ?_; refine blk_put (cs := #[.int .i64 a2, .int .i64 a1_1, .int .i64 t313, .int .i64 (-1), .int .i64 0]) ?_ 4 _ rfl; refine zP ?_; refine blk_put (cs := #[.int .i64 a2, .int .i64 a1_1, .int .i64 t313, .int .i64 0, .int .i64 0]) ?_ 3 _ rfl; refine zP ?_; refine blk_put (cs := #[.int .i64 a2, .int .i64 a1_1, .int .i64 0, .int .i64 0, .int .i64 0]) ?_ 2 _ rfl; refine zP ?_; refine blk_put (cs := #[.int .i64 a2, .int .i64 0, .int .i64 0, .int .i64 0, .int .i64 0]) ?_ 1 _ rfl; refine zP ?_; refine blk_put (cs := #[.int .i64 0, .int .i64 0, .int .i64 0, .int .i64 0, .int .i64 0]) ?_ 0 _ rfl; refine zP ?_; refine blk_far ?_ NB302_314.1 _; refine zP ?_; exact BK302.1) Try.underlying31 rfl (by kernel_rfl)) rfl ?_
    exact ⟨zE, zB1⟩
   rw [if_neg c51] at H
   have c51b1 : (t306 != 5) = true := bne_iff_ne.mpr c51
   simp only [Option.some.injEq, Prod.mk.injEq] at H
   obtain ⟨rfl, rfl, rfl, rfl, rfl, rfl⟩ := H
   have hcz81 := zc_3 (w := wc) BK301.1
   have p305 : 0 ≤ (a1_1 : Int) := zA
   have q305 : a1_1 < (l0.length : Int) := zA
   obtain ⟨ad305, e305, hx305_0⟩ := Kd.at_int HR0.1 a1_1 p305 q305
   cases e305
   replace hx305_0 := (HB.1.cell (World.block_lt_of_cell? w _ hx305_0)).trans hx305_0
   replace p305 := eq_true p305
   replace q305 := eq_true q305
   try go_wp2_with (first | ((with_reducible refine zG Try.func77 31 #[.int .i64 (rd l0 a1_1)] ?_); (with_reducible refine (spec_Decode.calls (rd l0 a1_1) t306 t307 t308 t309 t310 t311 _ A23.1).mono ?_); rintro e w82 ⟨rfl, hb⟩; refine ⟨_, rfl, ?_⟩; replace BK301 := zM (zb BK301.1 hb); replace BK302 := zM (zb BK302.1 hb); replace HB := zM (below_step zB1 hb); clear hb) | ((with_reducible refine zBx 8 71 #[.int .i64 0, .int .i64 0, .int .i64 0, .int .i64 0, .int .i64 0] ?_); intro gb312 hg w83 hbox hb; have BK312 := zM hbox; have GE312 := zM (zW hg (below_size zB1)); replace HB := zM (below_step zB1 hb); have NB301_312 := zM ((zn BK301.1 hg : gb301 ≠ gb312)); replace BK301 := zM (zb BK301.1 hb); have NB302_312 := zM ((zn BK302.1 hg : gb302 ≠ gb312)); replace BK302 := zM (zb BK302.1 hb); clear hb hbox hg; have hcz86 := zc_5 (w := w83) BK312.1))
   have n0_ : Aside0 ((((((w83.setCell ⟨gb312, 0, none⟩ (.int .i64 t306)).setCell ⟨gb312, 1, none⟩ (.int .i64 t307)).setCell ⟨gb312, 2, none⟩ (.int .i64 t308)).setCell ⟨gb312, 3, none⟩ (.int .i64 t309)).setCell ⟨gb312, 4, none⟩ (.int .i64 t310)).heap[gb301]? = some (.cells #[.slice A1_0 l1_0.length c1_0, .int .i64 a1_1, .int .i64 a1_2] 49 (0, 0))) := ⟨by refine zP ?_; refine blk_far ?_ NB301_312.1 _; refine zP ?_; refine blk_far ?_ NB301_312.1 _; refine zP ?_; refine blk_far ?_ NB301_312.1 _; refine zP ?_; refine blk_far ?_ NB301_312.1 _; refine zP ?_; refine blk_far ?_ NB301_312.1 _; refine zP ?_; exact BK301.1⟩
   have n1_ : Aside0 ((((((w83.setCell ⟨gb312, 0, none⟩ (.int .i64 t306)).setCell ⟨gb312, 1, none⟩ (.int .i64 t307)).setCell ⟨gb312, 2, none⟩ (.int .i64 t308)).setCell ⟨gb312, 3, none⟩ (.int .i64 t309)).setCell ⟨gb312, 4, none⟩ (.int .i64 t310)).heap[gb302]? = some (.cells #[.int .i64 0, .int .i64 0, .int .i64 0, .int .i64 0, .int .i64 0] 31 (0, 0))) := ⟨by refine zP ?_; refine blk_far ?_ NB302_312.1 _; refine zP ?_; refine blk_far ?_ NB302_312.1 _; refine zP ?_; refine blk_far ?_ NB302_312.1 _; refine zP ?_; refine blk_far ?_ NB302_312.1 _; refine zP ?_; refine blk_far ?_ NB302_312.1 _; refine zP ?_; exact BK302.1⟩
   have n2_ : Aside0 ((((((w83.setCell ⟨gb312, 0, none⟩ (.int .i64 t306)).setCell ⟨gb312, 1, none⟩ (.int .i64 t307)).setCell ⟨gb312, 2, none⟩ (.int .i64 t308)).setCell ⟨gb312, 3, none⟩ (.int .i64 t309)).setCell ⟨gb312, 4, none⟩ (.int .i64 t310)).heap[gb312]? = some (.cells #[.int .i64 t306, .int .i64 t307, .int .i64 t308, .int .i64 t309, .int .i64 t310] 71 (0, 0))) := ⟨by exact zp5 (zK BK312.1)⟩
   have n3_ : Aside0 (Below w.heap.size w (((((w83.setCell ⟨gb312, 0, none⟩ (.int .i64 t306)).setCell ⟨gb312, 1, none⟩ (.int .i64 t307)).setCell ⟨gb312, 2, none⟩ (.int .i64 t308)).setCell ⟨gb312, 3, none⟩ (.int .i64 t309)).setCell ⟨gb312, 4, none⟩ (.int .i64 t310))) := ⟨zB1⟩
   (try clear BK301)
   (try clear BK302)
   (try clear BK312)
   (try clear HB)
   generalize (((((w83.setCell ⟨gb312, 0, none⟩ (.int .i64 t306)).setCell ⟨gb312, 1, none⟩ (.int .i64 t307)).setCell ⟨gb312, 2, none⟩ (.int .i64 t308)).setCell ⟨gb312, 3, none⟩ (.int .i64 t309)).setCell ⟨gb312, 4, none⟩ (.int .i64 t310)) = w87 at n0_ n1_ n2_ n3_ ⊢
   have BK301 := n0_
   have BK302 := n1_
   have BK312 := n2_
   have HB := n3_
   clear n1_ n3_; try clear n0_; try clear n2_
   replace BK301 := zM (blk_drew BK301.1)
   replace BK302 := zM (blk_drew BK302.1)
   replace BK312 := zM (blk_drew BK312.1)
   replace HB := zM (below_drew1 HB.1)
   refine start_ (n := 10) (S := fun w' => w'.cell? ⟨gb301, 0, none⟩ = some (.slice A1_0 l1_0.length c1_0) ∧ w'.cell? ⟨gb301, 1, none⟩ = some (.int .i64 a1_1) ∧ w'.cell? ⟨gb301, 2, none⟩ = some (.int .i64 a1_2) ∧ w'.cell? ⟨gb312, 0, none⟩ = some (.int .i64 t306) ∧ w'.cell? ⟨gb312, 1, none⟩ = some (.int .i64 t307) ∧ w'.cell? ⟨gb312, 2, none⟩ = some (.int .i64 t308) ∧ w'.cell? ⟨gb312, 3, none⟩ = some (.int .i64 t309) ∧ w'.cell? ⟨gb312, 4, none⟩ = some (.int .i64 t310)) (ds := []) zq7_0 (by kernel_rfl) rfl rfl ⟨(blk_cell BK301.1 0).trans rfl, (blk_cell BK301.1 1).trans rfl, (blk_cell BK301.1 2).trans rfl, (blk_cell BK312.1 0).trans rfl, (blk_cell BK312.1 1).trans rfl, (blk_cell BK312.1 2).trans rfl, (blk_cell BK312.1 3).trans rfl, (blk_cell BK312.1 4).trans rfl⟩ (fun hHeld => ?_); refine with_tabW spec_EventOf.tab4 spec_EventOf.bits4 (fun HT_ HW_ => ?_)
   generalize w87.drew = w88 at BK301 BK302 BK312 HB hHeld ⊢
   refine zPu 0 ?_
   refine zPu 1 ?_
   refine zPu 4 ?_
   refine zTk8 2 hHeld ?_
   refine zTk8 3 hHeld ?_
   refine zTk8 5 hHeld ?_
   refine join_ (σ := Nat) 1 zq7_7 (fun s_ => [(40, .int .i64 t313), (10, .pointer (some ⟨s_, 0, none⟩)), (41, .agg #[.int .i64 a2, .int .i64 a1_1, .int .i64 t313, .int .i64 (-1), .int .i64 (-1)])]) (fun s_ w' => (w'.cell? ⟨gb301, 0, none⟩ = some (.slice A1_0 l1_0.length c1_0) ∧ w'.cell? ⟨gb301, 1, none⟩ = some (.int .i64 a1_1) ∧ w'.cell? ⟨gb301, 2, none⟩ = some (.int .i64 a1_2) ∧ w'.cell? ⟨gb312, 0, none⟩ = some (.int .i64 t306) ∧ w'.cell? ⟨gb312, 1, none⟩ = some (.int .i64 t307) ∧ w'.cell? ⟨gb312, 2, none⟩ = some (.int .i64 t308) ∧ w'.cell? ⟨gb312, 3, none⟩ = some (.int .i64 t309) ∧ w'.cell? ⟨gb312, 4, none⟩ = some (.int .i64 t310)) ∧ (w'.heap[gb301]? = some (.cells #[.slice A1_0 l1_0.length c1_0, .int .i64 a1_1, .int .i64 a1_2] 49 (0, 0))) ∧ (w'.heap[gb302]? = some (.cells #[.int .i64 0, .int .i64 0, .int .i64 0, .int .i64 0, .int .i64 0] 31 (0, 0))) ∧ (w'.heap[gb312]? = some (.cells #[.int .i64 t306, .int .i64 t307, .int .i64 t308, .int .i64 t309, .int .i64 t310] 71 (0, 0))) ∧ (w'.heap[s_]? = some (.cells #[.int .i64 0, .int .i64 0, .int .i64 0, .int .i64 0, .int .i64 0] 31 (0, 0))) ∧ (w.heap.size ≤ s_) ∧ (w.heap.size ≤ s_) ∧ (gb301 ≠ s_) ∧ (s_ ≠ gb301) ∧ (gb302 ≠ s_) ∧ (s_ ≠ gb302) ∧ (gb312 ≠ s_) ∧ (s_ ≠ gb312) ∧ (Below w.heap.size w w')) ?_ ?_
   rotate_left
   ·intro hCont
    refine two_ (i := 6) (j := 8) (Ni := some 40) (Nj := some 10) zq7_8 zq7_9 rfl rfl rfl rfl (two_of HT_.1 (by kernel_rfl)) (by decide) (by decide) (fun K hK => ?_) (fun K hK => ?_)
    ·refine zGs Try.func78 #[.agg #[.int .i64 t306, .int .i64 t307, .int .i64 t308, .int .i64 t309, .int .i64 t310], .slice A1_0 l1_0.length c1_0] ?_
     with_reducible refine (spec_Target.calls t306 t307 t308 t309 t310 _ _ l1_0 t313 _ ?side1 ?side2 A24.1).mono ?_
     (case side1 => exact zC (Kd.C_below HR1_0.1 HB.1))
     (case side2 => exact HC1_0.1)
     rintro e w89 ⟨rfl, hb⟩
     refine ⟨_, rfl, ?_⟩
     replace BK301 := zM (zb BK301.1 hb)
     replace BK302 := zM (zb BK302.1 hb)
     replace BK312 := zM (zb BK312.1 hb)
     replace HB := zM (below_step zB1 hb)
     refine hK.out _ _ zCs fun hHeld => ?_
     clear hK K
     refine zNo ?_
     refine zPu 7 ?_
     refine zOn 8 (some 10) fun K hK => ?_
     refine zBs 10 31 #[.int .i64 0, .int .i64 0, .int .i64 0, .int .i64 0, .int .i64 0] ?_
     intro gb314 hg w90 hbox hb
     replace BK314 := zM hbox
     replace GW314 := zM (zW hg (below_size zB1))
     replace GE314 := zM (zW hg (below_size zB1))
     replace HB := zM (below_step zB1 hb)
     replace NB301_314 := zM ((zn BK301.1 hg : gb301 ≠ gb314))
     replace NB314_301 := zM ((zm BK301.1 hg : gb314 ≠ gb301))
     replace BK301 := zM (zb BK301.1 hb)
     replace NB302_314 := zM ((zn BK302.1 hg : gb302 ≠ gb314))
     replace NB314_302 := zM ((zm BK302.1 hg : gb314 ≠ gb302))
     replace BK302 := zM (zb BK302.1 hb)
     replace NB312_314 := zM ((zn BK312.1 hg : gb312 ≠ gb314))
     replace NB314_312 := zM ((zm BK312.1 hg : gb314 ≠ gb312))
     replace BK312 := zM (zb BK312.1 hb)
     refine hK.out _ _ zCs fun hHeld => ?_
     clear hK K
     refine zNo ?_
     exact norm_ zNr (hCont (gb314) _ ⟨hHeld, (zK BK301.1), (zK BK302.1), (zK BK312.1), (zK BK314.1), GW314.1, GE314.1, NB301_314.1, NB314_301.1, NB302_314.1, NB314_302.1, NB312_314.1, NB314_312.1, zB1⟩)
    ·refine zBs 10 31 #[.int .i64 0, .int .i64 0, .int .i64 0, .int .i64 0, .int .i64 0] ?_
     intro gb314 hg w89 hbox hb
     replace BK314 := zM hbox
     replace GW314 := zM (zW hg (below_size zB1))
     replace GE314 := zM (zW hg (below_size zB1))
     replace HB := zM (below_step zB1 hb)
     replace NB301_314 := zM ((zn BK301.1 hg : gb301 ≠ gb314))
     replace NB314_301 := zM ((zm BK301.1 hg : gb314 ≠ gb301))
     replace BK301 := zM (zb BK301.1 hb)
     replace NB302_314 := zM ((zn BK302.1 hg : gb302 ≠ gb314))
     replace NB314_302 := zM ((zm BK302.1 hg : gb314 ≠ gb302))
     replace BK302 := zM (zb BK302.1 hb)
     replace NB312_314 := zM ((zn BK312.1 hg : gb312 ≠ gb314))
     replace NB314_312 := zM ((zm BK312.1 hg : gb314 ≠ gb312))
     replace BK312 := zM (zb BK312.1 hb)
     refine hK.out _ _ zCs fun hHeld => ?_
     clear hK K
     refine zNo ?_
     refine zOn 6 (some 40) fun K hK => ?_
     refine zGs Try.func78 #[.agg #[.int .i64 t306, .int .i64 t307, .int .i64 t308, .int .i64 t309, .int .i64 t310], .slice A1_0 l1_0.length c1_0] ?_
     with_reducible refine (spec_Target.calls t306 t307 t308 t309 t310 _ _ l1_0 t313 _ ?side1 ?side2 A24.1).mono ?_
     (case side1 => exact zC (Kd.C_below HR1_0.1 HB.1))
     (case side2 => exact HC1_0.1)
     rintro e w90 ⟨rfl, hb⟩
     refine ⟨_, rfl, ?_⟩
     replace BK301 := zM (zb BK301.1 hb)
     replace BK302 := zM (zb BK302.1 hb)
     replace BK312 := zM (zb BK312.1 hb)
     replace BK314 := zM (zb BK314.1 hb)
     replace HB := zM (below_step zB1 hb)
     refine hK.out _ _ zCs fun hHeld => ?_
     clear hK K
     refine zNo ?_
     refine zPu 7 ?_
     exact norm_ zNr (hCont (gb314) _ ⟨hHeld, (zK BK301.1), (zK BK302.1), (zK BK312.1), (zK BK314.1), GW314.1, GE314.1, NB301_314.1, NB314_301.1, NB302_314.1, NB314_302.1, NB312_314.1, NB314_312.1, zB1⟩)
   rintro gb314 w91 ⟨hS_, h0_, h1_, h2_, h3_, h4_, h5_, h6_, h7_, h8_, h9_, h10_, h11_, h12_⟩
   replace BK301 := zM h0_
   replace BK302 := zM h1_
   replace BK312 := zM h2_
   replace BK314 := zM h3_
   replace GW314 := zM h4_
   replace GE314 := zM h5_
   replace NB301_314 := zM h6_
   replace NB302_314 := zM h8_
   replace NB314_302 := zM h9_
   replace NB312_314 := zM h10_
   replace NB314_312 := zM h11_
   replace HB := zM h12_
   have hHeld : w91.cell? ⟨gb301, 0, none⟩ = some (.slice A1_0 l1_0.length c1_0) ∧ w91.cell? ⟨gb301, 1, none⟩ = some (.int .i64 a1_1) ∧ w91.cell? ⟨gb301, 2, none⟩ = some (.int .i64 a1_2) ∧ w91.cell? ⟨gb312, 0, none⟩ = some (.int .i64 t306) ∧ w91.cell? ⟨gb312, 1, none⟩ = some (.int .i64 t307) ∧ w91.cell? ⟨gb312, 2, none⟩ = some (.int .i64 t308) ∧ w91.cell? ⟨gb312, 3, none⟩ = some (.int .i64 t309) ∧ w91.cell? ⟨gb312, 4, none⟩ = some (.int .i64 t310) := hS_
   refine zNp ?_
   refine zOn 9 none fun K hK => ?_
   obtain ⟨hs92, hfs92⟩ := zHs BK314.1 0
   obtain ⟨hs93, hfs93⟩ := zHs BK314.1 1
   obtain ⟨hs94, hfs94⟩ := zHs BK314.1 2
   obtain ⟨hs95, hfs95⟩ := zHs BK314.1 3
   obtain ⟨hs96, hfs96⟩ := zHs BK314.1 4
   refine skip_ (w1 := ?_) (by rfl) rfl ?_ ?_
   rotate_left
   ·go_simp
    rfl
   refine hK.out _ _ zCs fun hHeld => ?_
   clear hK K
   refine done_ (done_of HT_.1 (by kernel_rfl)) ?_
   try go_wp2
   have n0_ : Aside0 ((((((w91.setCell ⟨gb314, 0, none⟩ (.int .i64 a2)).setCell ⟨gb314, 1, none⟩ (.int .i64 a1_1)).setCell ⟨gb314, 2, none⟩ (.int .i64 t313)).setCell ⟨gb314, 3, none⟩ (.int .i64 (-1))).setCell ⟨gb314, 4, none⟩ (.int .i64 (-1))).heap[gb301]? = some (.cells #[.slice A1_0 l1_0.length c1_0, .int .i64 a1_1, .int .i64 a1_2] 49 (0, 0))) := ⟨by refine zP ?_; refine blk_far ?_ NB301_314.1 _; refine zP ?_; refine blk_far ?_ NB301_314.1 _; refine zP ?_; refine blk_far ?_ NB301_314.1 _; refine zP ?_; refine blk_far ?_ NB301_314.1 _; refine zP ?_; refine blk_far ?_ NB301_314.1 _; refine zP ?_; exact BK301.1⟩
   have n1_ : Aside0 ((((((w91.setCell ⟨gb314, 0, none⟩ (.int .i64 a2)).setCell ⟨gb314, 1, none⟩ (.int .i64 a1_1)).setCell ⟨gb314, 2, none⟩ (.int .i64 t313)).setCell ⟨gb314, 3, none⟩ (.int .i64 (-1))).setCell ⟨gb314, 4, none⟩ (.int .i64 (-1))).heap[gb302]? = some (.cells #[.int .i64 0, .int .i64 0, .int .i64 0, .int .i64 0, .int .i64 0] 31 (0, 0))) := ⟨by refine zP ?_; refine blk_far ?_ NB302_314.1 _; refine zP ?_; refine blk_far ?_ NB302_314.1 _; refine zP ?_; refine blk_far ?_ NB302_314.1 _; refine zP ?_; refine blk_far ?_ NB302_314.1 _; refine zP ?_; refine blk_far ?_ NB302_314.1 _; refine zP ?_; exact BK302.1⟩
   have n2_ : Aside0 ((((((w91.setCell ⟨gb314, 0, none⟩ (.int .i64 a2)).setCell ⟨gb314, 1, none⟩ (.int .i64 a1_1)).setCell ⟨gb314, 2, none⟩ (.int .i64 t313)).setCell ⟨gb314, 3, none⟩ (.int .i64 (-1))).setCell ⟨gb314, 4, none⟩ (.int .i64 (-1))).heap[gb312]? = some (.cells #[.int .i64 t306, .int .i64 t307, .int .i64 t308, .int .i64 t309, .int .i64 t310] 71 (0, 0))) := ⟨by refine zP ?_; refine blk_far ?_ NB312_314.1 _; refine zP ?_; refine blk_far ?_ NB312_314.1 _; refine zP ?_; refine blk_far ?_ NB312_314.1 _; refine zP ?_; refine blk_far ?_ NB312_314.1 _; refine zP ?_; refine blk_far ?_ NB312_314.1 _; refine zP ?_; exact BK312.1⟩
   have n3_ : Aside0 ((((((w91.setCell ⟨gb314, 0, none⟩ (.int .i64 a2)).setCell ⟨gb314, 1, none⟩ (.int .i64 a1_1)).setCell ⟨gb314, 2, none⟩ (.int .i64 t313)).setCell ⟨gb314, 3, none⟩ (.int .i64 (-1))).setCell ⟨gb314, 4, none⟩ (.int .i64 (-1))).heap[gb314]? = some (.cells #[.int .i64 a2, .int .i64 a1_1, .int .i64 t313, .int .i64 (-1), .int .i64 (-1)] 31 (0, 0))) := ⟨by exact zp5 (zK BK314.1)⟩
   have n4_ : Aside0 (Below w.heap.size w (((((w91.setCell ⟨gb314, 0, none⟩ (.int .i64 a2)).setCell ⟨gb314, 1, none⟩ (.int .i64 a1_1)).setCell ⟨gb314, 2, none⟩ (.int .i64 t313)).setCell ⟨gb314, 3, none⟩ (.int .i64 (-1))).setCell ⟨gb314, 4, none⟩ (.int .i64 (-1)))) := ⟨zB1⟩
   (try clear BK301)
   (try clear BK302)
   (try clear BK312)
   (try clear BK314)
   (try clear HB)
   generalize (((((w91.setCell ⟨gb314, 0, none⟩ (.int .i64 a2)).setCell ⟨gb314, 1, none⟩ (.int .i64 a1_1)).setCell ⟨gb314, 2, none⟩ (.int .i64 t313)).setCell ⟨gb314, 3, none⟩ (.int .i64 (-1))).setCell ⟨gb314, 4, none⟩ (.int .i64 (-1))) = w101 at n0_ n1_ n2_ n3_ n4_ ⊢
   have BK301 := n0_
   have BK302 := n1_
   have BK312 := n2_
   have BK314 := n3_
   have HB := n4_
   clear n1_ n3_; try clear n0_; try clear n2_; try clear n4_
   replace BK301 := zM (blk_drew BK301.1)
   replace BK302 := zM (blk_drew BK302.1)
   replace BK312 := zM (blk_drew BK312.1)
   replace BK314 := zM (blk_drew BK314.1)
   replace HB := zM (below_drew1 HB.1)
   have p315 : 0 ≤ (t313 : Int) := zA
   have q315 : t313 < (l0.length : Int) := zA
   obtain ⟨ad315, e315, hx315_0⟩ := Kd.at_int HR0.1 t313 p315 q315
   have hw315_0 := hx315_0
   obtain rfl : ad305 = ad315 := (by injection e315)
   replace hx315_0 := (HB.1.cell (World.block_lt_of_cell? w _ hx315_0)).trans hx315_0
   replace p315 := eq_true p315
   replace q315 := eq_true q315
   refine start_ (n := 13) (S := fun w' => w'.cell? ⟨gb301, 0, none⟩ = some (.slice A1_0 l1_0.length c1_0) ∧ w'.cell? ⟨gb301, 1, none⟩ = some (.int .i64 a1_1) ∧ w'.cell? ⟨gb301, 2, none⟩ = some (.int .i64 a1_2) ∧ w'.cell? ⟨gb312, 0, none⟩ = some (.int .i64 t306) ∧ w'.cell? ⟨gb312, 1, none⟩ = some (.int .i64 t307) ∧ w'.cell? ⟨gb312, 2, none⟩ = some (.int .i64 t308) ∧ w'.cell? ⟨gb312, 3, none⟩ = some (.int .i64 t309) ∧ w'.cell? ⟨gb312, 4, none⟩ = some (.int .i64 t310) ∧ w'.cell? ⟨gb314, 0, none⟩ = some (.int .i64 a2) ∧ w'.cell? ⟨gb314, 1, none⟩ = some (.int .i64 a1_1) ∧ w'.cell? ⟨gb314, 2, none⟩ = some (.int .i64 t313) ∧ w'.cell? ⟨gb314, 3, none⟩ = some (.int .i64 (-1)) ∧ w'.cell? ⟨gb314, 4, none⟩ = some (.int .i64 (-1)) ∧ w'.cell? (ad305.add (t313).toNat) = some (.int .i64 (rd l0 t313))) (ds := [12]) zq7_13 (by kernel_rfl) rfl rfl ⟨(blk_cell BK301.1 0).trans rfl, (blk_cell BK301.1 1).trans rfl, (blk_cell BK301.1 2).trans rfl, (blk_cell BK312.1 0).trans rfl, (blk_cell BK312.1 1).trans rfl, (blk_cell BK312.1 2).trans rfl, (blk_cell BK312.1 3).trans rfl, (blk_cell BK312.1 4).trans rfl, (blk_cell BK314.1 0).trans rfl, (blk_cell BK314.1 1).trans rfl, (blk_cell BK314.1 2).trans rfl, (blk_cell BK314.1 3).trans rfl, (blk_cell BK314.1 4).trans rfl, ((HB.1.cell (World.block_lt_of_cell? w _ hw315_0)).trans hw315_0)⟩ (fun hHeld => ?_); refine with_tabW spec_EventOf.tab7 spec_EventOf.bits7 (fun HT_ HW_ => ?_)
   generalize w101.drew = w102 at BK301 BK302 BK312 BK314 HB hx315_0 hHeld ⊢
   refine zPu 2 ?_
   refine zPu 3 ?_
   refine zTk14 0 hHeld ?_
   refine zTk14 1 hHeld ?_
   refine zTk14 4 hHeld ?_
   refine zPu 5 ?_
   refine zTk14 6 hHeld ?_
   refine zOn 7 (some 54) fun K hK => ?_
   refine zGs Try.func79 #[.agg #[.slice A1_0 l1_0.length c1_0, .int .i64 a1_1, .int .i64 a1_2], .agg #[.int .i64 t306, .int .i64 t307, .int .i64 t308, .int .i64 t309, .int .i64 t310], .int .i64 (rd l0 t313)] ?_
   with_reducible refine (spec_Work.calls kj3 _ _ l1_0 a1_1 a1_2 t306 t307 t308 t309 t310 (rd l0 t313) t316 t319 t320 t321 _ ?side1 ?side2 A50.1).mono ?_
   (case side1 => exact zC (Kd.C_below HR1_0.1 HB.1))
   (case side2 => exact HC1_0.1)
   rintro e w103 ⟨v317, rfl, ho0, hb⟩
   refine ⟨_, rfl, ?_⟩
   replace BK301 := zM (zb BK301.1 hb)
   replace BK302 := zM (zb BK302.1 hb)
   replace BK312 := zM (zb BK312.1 hb)
   replace BK314 := zM (zb BK314.1 hb)
   replace HB := zM (below_step zB1 hb)
   (try clear ho0)
   refine hK.out _ _ ⟨(blk_cell BK301.1 0).trans rfl, (blk_cell BK301.1 1).trans rfl, (blk_cell BK301.1 2).trans rfl, (blk_cell BK312.1 0).trans rfl, (blk_cell BK312.1 1).trans rfl, (blk_cell BK312.1 2).trans rfl, (blk_cell BK312.1 3).trans rfl, (blk_cell BK312.1 4).trans rfl, (blk_cell BK314.1 0).trans rfl, (blk_cell BK314.1 1).trans rfl, (blk_cell BK314.1 2).trans rfl, (blk_cell BK314.1 3).trans rfl, (blk_cell BK314.1 4).trans rfl, ((HB.1.cell (World.block_lt_of_cell? w _ hw315_0)).trans hw315_0)⟩ (fun hHeld => ?_)
   clear hK K
   refine zNo ?_
   refine zPu 8 ?_
   refine zPu 9 ?_
   refine zPu 10 ?_
   refine zPu 11 ?_
   refine last_ (i := 12) (N := none) zq7_26 rfl rfl (one_of HT_.1 (by kernel_rfl)) (by decide) (fun K hK => ?_)
   have hfs104 := blk_frozen BK314.1 4
   have hms104_1 := NB314_302.1
   have hms104_2 := NB314_312.1
   refine skip_ (w1 := ?_) (by rfl) rfl ?_ ?_
   rotate_left
   ·go_simp
    rfl
   refine hK.out _ _ ?_
   clear hK K
   refine done_ (done_of HT_.1 (by kernel_rfl)) ?_
   have hcz106 := zc_5 (w := w103) BK314.1
   have p322 : 0 ≤ (t313 : Int) := zA
   have q322 : t313 < (l0.length : Int) := zA
   obtain ⟨ad322, e322, hx322_0⟩ := Kd.at_int HR0.1 t313 p322 q322
   obtain rfl : ad305 = ad322 := (by injection e322)
   have hn322_0 : ad305.block ≠ gb314 := Nat.ne_of_lt (Nat.lt_of_lt_of_le (by have := World.block_lt_of_cell? _ _ hx322_0; first | rwa [add_block] at this | exact this) GW314.1)
   replace hx322_0 := (HB.1.cell (World.block_lt_of_cell? w _ hx322_0)).trans hx322_0
   replace hx322_0 := (cell_far (p := ⟨gb314, 4, none⟩) (by first | (rw [add_block]; exact hn322_0) | (show (Addr.add _ _).block ≠ _; rw [add_block]; exact hn322_0) | exact hn322_0) (.int .i64 t321)).trans hx322_0
   clear hn322_0
   have hcz107 := zc_5 (w := w103) BK302.1
   try go_wp2
   refine bodyPost_ret (results_ct rfl _ _ gb302 31 #[.int .i64 a2, .int .i64 a1_1, .int .i64 t313, .int .i64 (rd l0 t313), .int .i64 t321] (0, 0) _ rfl (by refine zP ?_; refine blk_put (cs := #[.int .i64 a2, .int .i64 a1_1, .int .i64 t313, .int .i64 (rd l0 t313), .int .i64 0]) ?_ 4 _ rfl; refine zP ?_; refine blk_put (cs := #[.int .i64 a2, .int .i64 a1_1, .int .i64 t313, .int .i64 0, .int .i64 0]) ?_ 3 _ rfl; refine zP ?_; refine blk_put (cs := #[.int .i64 a2, .int .i64 a1_1, .int .i64 0, .int .i64 0, .int .i64 0]) ?_ 2 _ rfl; refine zP ?_; refine blk_put (cs := #[.int .i64 a2, .int .i64 0, .int .i64 0, .int .i64 0, .int .i64 0]) ?_ 1 _ rfl; refine zP ?_; refine blk_put (cs := #[.int .i64 0, .int .i64 0, .int .i64 0, .int .i64 0, .int .i64 0]) ?_ 0 _ rfl; refine zP ?_; refine blk_far ?_ NB302_314.1 _; refine zP ?_; refine blk_far ?_ NB302_314.1 _; refine zP ?_; exact BK302.1) Try.underlying31 rfl (by kernel_rfl)) rfl ?_
   exact ⟨zE, zB1⟩

end Go.Proofs.Ytgbjengnkbomoaa.PFnKnows
