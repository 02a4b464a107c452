-- made by wip/tools/myprint.py out of the seat's translation
import Derived.Test.YtgbjengnkbomoaaPFnRacesOfCountsx0
import Derived.Test.YtgbjengnkbomoaaPFnRacesOfCountsx11
import Derived.Test.YtgbjengnkbomoaaPFnRacesOfCountsx12
import Derived.Test.YtgbjengnkbomoaaPFnRacesOfCountsx13
namespace Go.Proofs.Ytgbjengnkbomoaa.PFnRacesOfCounts
open Go.RowKit Go.Proofs.YtgbjengnkbomoaaW.PrintWords Go.Proofs.YtgbjengnkbomoaaW.PrintLast Go.Proofs.YtgbjengnkbomoaaW.PrintMore
attribute [local go_sem] max2_int min2_int max_two min_two max_three min_three max_four min_four   -- for this text's walks alone
set_option linter.unusedVariables false
set_option linter.unusedSimpArgs false
set_option maxHeartbeats 8000000
set_option maxRecDepth 100000
abbrev zq14_0 : Array Bool := #[false, false, false, false, false, false, false, false, false, false]
abbrev zq14_7 : Array Bool := #[true, true, true, true, true, true, true, true, true, false]
abbrev zq14_8 : Array Bool := #[true, true, true, true, true, true, true, false, false, false]
abbrev zq14_9 : Array Bool := #[true, true, true, true, true, true, false, false, true, false]
abbrev zq14_13 : Array Bool := #[false, false, false, false, false, false, false, false, false, false, false, false, false]
abbrev zq14_26 : Array Bool := #[true, true, true, true, true, true, true, true, true, true, true, true, true]

/-! ### spec_EventOf: function 56 -/
def spec_EventOf.j0 : Nat → List Int → Int → Bool → List Int → Int → Int → Option (Int × Int × Int × Int × Int × Bool)
 | 0, _, _, _, _, _, _ => none
 | k + 1, x0, x2, x23, x445000, x445001, x445002 => if x23 = true then (some (0, 0, 0, 0, 0, false)) else (if 0 ≤ x445001 then (if x445001 < (x0.length : Int) then ((spec_Decode.f (rd x0 x445001)).bind fun bt449 => ((spec_Target.f bt449.1 bt449.2.1 bt449.2.2.1 bt449.2.2.2.1 bt449.2.2.2.2.1 x445000).bind fun t456 => (if t456 < 0 then (some (x2, x445001, t456, (-1), (-1), true)) else (if 0 ≤ t456 then (if t456 < (x0.length : Int) then ((spec_Work.f k x445000 x445001 x445002 bt449.1 bt449.2.1 bt449.2.2.1 bt449.2.2.2.1 bt449.2.2.2.2.1 (rd x0 t456)).bind fun bt459 => (if bt449.1 = 5 then (some (x2, x445001, t456, (-1), bt459.2.2.2, true)) else (some (x2, x445001, t456, rd x0 t456, bt459.2.2.2, true)))) else (none)) else (none))))) else (none)) else (none))
def spec_EventOf.f (k : Nat) (l0 : List Int) (l1_0 : List Int) (a1_1 : Int) (a1_2 : Int) (a2 : Int) : Option (Int × Int × Int × Int × Int × Bool) := (spec_l1Words.f k l0 24).bind fun t446 => (if t446 = true then ((spec_HartOk.f k l1_0 a1_1 a1_2).bind fun t447 => (if t447 = true then (spec_EventOf.j0 k l0 a2 (a1_2 != 0) l1_0 a1_1 a1_2) else (spec_EventOf.j0 k l0 a2 true l1_0 a1_1 a1_2))) else (spec_EventOf.j0 k l0 a2 true l1_0 a1_1 a1_2))
theorem spec_EventOf.mono_l : ∀ k, (∀ y0 y1 y2 y3 y4 y5, LeO (spec_EventOf.j0 k y0 y1 y2 y3 y4 y5) (spec_EventOf.j0 (k + 1) y0 y1 y2 y3 y4 y5))
 | 0 => fun _ _ _ _ _ _ r h => by simp [spec_EventOf.j0] at h
 | k + 1 => by
  have ih0 := spec_EventOf.mono_l k
  ·intros
   unfold spec_EventOf.j0
   have mo0 := @spec_HartOk.mono
   have mo1 := @spec_Work.mono
   have mo2 := @spec_l1Words.mono
   exact zL
theorem spec_EventOf.mono : ∀ a0 a1 a2 a3 a4 k, LeO (spec_EventOf.f k a0 a1 a2 a3 a4) (spec_EventOf.f (k + 1) a0 a1 a2 a3 a4) := by
 intro a0 a1 a2 a3 a4 k
 have ih0 := spec_EventOf.mono_l k
 unfold spec_EventOf.f
 have mo0 := @spec_HartOk.mono
 have mo1 := @spec_Work.mono
 have mo2 := @spec_l1Words.mono
 exact zL
def spec_EventOf.T4 : Bool × List (List Nat × List Nat) := (true, [([], []), ([], []), ([1], [1]), ([], []), ([], []), ([4], [4]), ([3, 5], [3, 5]), ([0, 2, 6], [0, 2, 6]), ([], []), ([8, 7, 6, 0, 1, 2, 3, 4, 5, 6, 7, 8], [7, 8])])
def spec_EventOf.B4 : List Nat := [0, 0, 2, 0, 0, 16, 56, 127, 0, 511]
theorem spec_EventOf.tab4 : rtab .any (opsOf Try.f56 4) = spec_EventOf.T4 := by kernel_rfl
theorem spec_EventOf.bits4 : waitsOk spec_EventOf.T4.2 spec_EventOf.B4 = true := by kernel_rfl
def spec_EventOf.T7 : Bool × List (List Nat × List Nat) := (true, [([], []), ([], []), ([], []), ([], []), ([3], [3]), ([2, 4], [2, 4]), ([5], [5]), ([0, 1, 6], [0, 1, 6]), ([7], [7]), ([8], [8]), ([8], [8]), ([0, 1, 2, 3, 4, 5, 6, 7, 8, 9, 10], []), ([11, 10, 7, 0, 1, 2, 3, 4, 5, 6, 7, 8, 9, 10], [10, 11])])
def spec_EventOf.B7 : List Nat := [0, 0, 0, 0, 8, 28, 60, 127, 255, 511, 511, 2047, 4095]
theorem spec_EventOf.tab7 : rtab .any (opsOf Try.f56 7) = spec_EventOf.T7 := by kernel_rfl
theorem spec_EventOf.bits7 : waitsOk spec_EventOf.T7.2 spec_EventOf.B7 = true := by kernel_rfl
theorem spec_EventOf.calls (k : Nat) (A0 : Option Addr) (c0 : Nat) (l0 : List Int) (A1_0 : Option Addr) (c1_0 : Nat) (l1_0 : List Int) (a1_1 : Int) (a1_2 : Int) (a2 : Int) (r1 : Int) (r2 : Int) (r3 : Int) (r4 : Int) (r5 : Int) (r6 : Bool) (w : World) (hr0 : Kd.C (Kd.int .i64) w A0 l0.length l0) (hc0 : l0.length ≤ c0) (hr1_0 : Kd.C (Kd.int .i64) w A1_0 l1_0.length l1_0) (hc1_0 : l1_0.length ≤ c1_0) (h : spec_EventOf.f k l0 l1_0 a1_1 a1_2 a2 = some (r1, r2, r3, r4, r5, r6)) :
  Calls Try.prog 56 #[.slice A0 l0.length c0, .agg #[.slice A1_0 l1_0.length c1_0, .int .i64 a1_1, .int .i64 a1_2], .int .i64 a2] w fun e w' => e = .returned (.tuple #[.agg #[.int .i64 r1, .int .i64 r2, .int .i64 r3, .int .i64 r4, .int .i64 r5], .bool r6]) ∧ Below w.heap.size w w' := by
 have hu49 := Try.underlying49
 have hu31 := Try.underlying31
 have hu71 := Try.underlying71
 have HR0 := zM hr0
 have HC0 := zM hc0
 clear hr0 hc0
 have HR1_0 := zM hr1_0
 have HC1_0 := zM hc1_0
 clear hr1_0 hc1_0
 have HB := zM (Below.refl w.heap.size w)
 unfold spec_EventOf.f at h
 have H := h
 clear h
 have HC4 := zM H
 clear H
 go_enter Try.func56, Try.ntmps56
 go_upto_region 1 with (first | ((with_reducible refine zBx 4 49 #[.slice A1_0 l1_0.length c1_0, .int .i64 a1_1, .int .i64 a1_2] ?_); intro gb444 hg w5 hbox hb; have BK444 := zM hbox; have GW444 := zM (zW hg (below_size zB1)); have GE444 := zM (zW hg (below_size zB1)); replace HB := zM (below_step zB1 hb); clear hb hbox hg) | ((with_reducible refine zBx 6 31 #[.int .i64 0, .int .i64 0, .int .i64 0, .int .i64 0, .int .i64 0] ?_); intro gb445 hg w6 hbox hb; have BK445 := zM hbox; have GW445 := zM (zW hg (below_size zB1)); have GE445 := zM (zW hg (below_size zB1)); replace HB := zM (below_step zB1 hb); have NB444_445 := zM ((zn BK444.1 hg : gb444 ≠ gb445)); have NB445_444 := zM ((zm BK444.1 hg : gb445 ≠ gb444)); replace BK444 := zM (zb BK444.1 hb); clear hb hbox hg))
 (try simp only [Act.put, List.setIfInBounds_toArray, List.set_cons_zero, List.set_cons_succ])
 go_cut [23] (fun v23 wc => ∃ (kq : Nat) (x23_3 : Bool), v23 = .bool x23_3 ∧ Aside0 (spec_EventOf.j0 kq l0 a2 x23_3 l1_0 a1_1 a1_2 = some (r1, r2, r3, r4, r5, r6)) ∧ Aside0 (kq ≤ k) ∧ Aside0 (wc.heap[gb444]? = some (.cells #[(.slice A1_0 l1_0.length c1_0), .int .i64 a1_1, .int .i64 a1_2] 49 (0, 0))) ∧ Aside0 (wc.heap[gb445]? = some (.cells #[.int .i64 0, .int .i64 0, .int .i64 0, .int .i64 0, .int .i64 0] 31 (0, 0))) ∧ Aside0 (Below w.heap.size w wc))
 case first =>
  have H := HC4.1
  clear HC4
  replace H := zO H
  obtain ⟨t446, A7, H⟩ := H
  by_cases c8 : t446 = true
  rotate_left
  ·replace c8 := Bool.eq_false_iff.mpr c8
   subst c8
   rw [if_neg zF] at H
   have H' := zM H
   clear H
   go_wp2_with (first | ((with_reducible refine zG Try.func75 12 #[.slice A0 l0.length c0, .int .i64 24] ?_); (with_reducible refine (spec_l1Words.calls k _ _ l0 24 false _ ?side1 ?side2 A7.1).mono ?_); (case side1 => exact zC (Kd.C_below HR0.1 HB.1)); (case side2 => exact HC0.1); rintro e w' ⟨rfl, ⟨nd, rfl⟩⟩; refine ⟨_, rfl, ?_⟩))
   go_meet
   case rel => exact ⟨_, (true), zJJ, H', ⟨by first | omega | exact Nat.le_refl _⟩, ⟨zK BK444.1⟩, ⟨zK BK445.1⟩, ⟨zB1⟩⟩
  subst c8
  rw [if_pos rfl] at H
  replace H := zO H
  obtain ⟨t447, A9, H⟩ := H
  by_cases c10 : t447 = true
  rotate_left
  ·replace c10 := Bool.eq_false_iff.mpr c10
   subst c10
   rw [if_neg zF] at H
   have H' := zM H
   clear H
   go_wp2_with (first | ((with_reducible refine zG Try.func75 12 #[.slice A0 l0.length c0, .int .i64 24] ?_); (with_reducible refine (spec_l1Words.calls k _ _ l0 24 true _ ?side1 ?side2 A7.1).mono ?_); (case side1 => exact zC (Kd.C_below HR0.1 HB.1)); (case side2 => exact HC0.1); rintro e w' ⟨rfl, ⟨nd, rfl⟩⟩; refine ⟨_, rfl, ?_⟩; have hnb15 := NB444_445.1; have hnc15 := NB445_444.1; have hcz16 := zc_3 (w := w6) BK444.1) | (go_at_call 76; (with_reducible refine (spec_HartOk.calls k _ _ l1_0 a1_1 a1_2 false _ ?side1 ?side2 A9.1).mono ?_); (case side1 => repeat (first | exact (Kd.C_below HR1_0.1 zB1) | (with_reducible refine Kd.C_alloc ?_ _) | (with_reducible refine Kd.C_drewN ?_ _) | (with_reducible refine Kd.C_drew ?_))); (case side2 => exact HC1_0.1); rintro e w17 ⟨rfl, hb⟩; replace BK444 := zM (zb BK444.1 hb); replace BK445 := zM (zb BK445.1 hb); replace HB := zM (below_step zB1 hb); clear hb))
   go_meet
   case rel => exact ⟨_, (true), zJJ, H', ⟨by first | omega | exact Nat.le_refl _⟩, ⟨zK BK444.1⟩, ⟨zK BK445.1⟩, ⟨zB1⟩⟩
  subst c10
  rw [if_pos rfl] at H
  have H' := zM H
  clear H
  go_wp2_with (first | ((with_reducible refine zG Try.func75 12 #[.slice A0 l0.length c0, .int .i64 24] ?_); (with_reducible refine (spec_l1Words.calls k _ _ l0 24 true _ ?side1 ?side2 A7.1).mono ?_); (case side1 => exact zC (Kd.C_below HR0.1 HB.1)); (case side2 => exact HC0.1); rintro e w' ⟨rfl, ⟨nd, rfl⟩⟩; refine ⟨_, rfl, ?_⟩; have hnb11 := NB444_445.1; have hnc11 := NB445_444.1; have hcz12 := zc_3 (w := w6) BK444.1) | (go_at_call 76; (with_reducible refine (spec_HartOk.calls k _ _ l1_0 a1_1 a1_2 true _ ?side1 ?side2 A9.1).mono ?_); (case side1 => repeat (first | exact (Kd.C_below HR1_0.1 zB1) | (with_reducible refine Kd.C_alloc ?_ _) | (with_reducible refine Kd.C_drewN ?_ _) | (with_reducible refine Kd.C_drew ?_))); (case side2 => exact HC1_0.1); rintro e w13 ⟨rfl, hb⟩; replace BK444 := zM (zb BK444.1 hb); replace BK445 := zM (zb BK445.1 hb); replace HB := zM (below_step zB1 hb); clear hb; have hcz14 := zc_3 (w := w13) BK444.1))
  go_meet
  case rel => exact ⟨_, ((a1_2 != 0)), zJJ, H', ⟨by first | omega | exact Nat.le_refl _⟩, ⟨zK BK444.1⟩, ⟨zK BK445.1⟩, ⟨zB1⟩⟩
 case rest =>
  clear HC4
  obtain ⟨kq, x23_3, rfl, HA, HJ3, BK444, BK445, HB⟩ := hcut
  cases kq with
  | zero => exact absurd HA.1 (by simp [spec_EventOf.j0])
  | succ kj3 =>
   have H := HA.1
   clear HA
   simp only [spec_EventOf.j0] at H
   by_cases c18 : x23_3 = true
   ·subst c18
    rw [if_pos rfl] at H
    simp only [Option.some.injEq, Prod.mk.injEq] at H
    obtain ⟨rfl, rfl, rfl, rfl, rfl, rfl⟩ := H
    have hnb19 := NB445_444.1
    have hnc19 := NB444_445.1
    have hcz20 := zc_5 (w := wc) BK445.1
    go_wp2
    refine bodyPost_ret (results_ct rfl _ _ gb445 31 #[.int .i64 0, .int .i64 0, .int .i64 0, .int .i64 0, .int .i64 0] (0, 0) _ rfl (by exact zp5 (zK BK445.1)) Try.underlying31 rfl (by kernel_rfl)) rfl ?_
    exact ⟨zE, zB1⟩
   replace c18 := Bool.eq_false_iff.mpr c18
   subst c18
   rw [if_neg zF] at H
   replace H := zIt H
   obtain ⟨c21b0, H⟩ := H
   replace H := zIt H
   obtain ⟨c22b0, H⟩ := H
   replace H := zO H
   obtain ⟨⟨t449, t450, t451, t452, t453, t454⟩, A23, H⟩ := H
   try dsimp only at H
   replace H := zO H
   obtain ⟨t456, A24, H⟩ := H
   by_cases c25 : t456 < 0
   ·rw [if_pos c25] at H
    have c25b0 := decide_eq_true c25
    clear c25
    simp only [Option.some.injEq, Prod.mk.injEq] at H
    obtain ⟨rfl, rfl, rfl, rfl, rfl, rfl⟩ := H
    have hnb26 := NB444_445.1
    have hnc26 := NB445_444.1
    have hcz27 := zc_3 (w := wc) BK444.1
    have p448 : 0 ≤ (a1_1 : Int) := zA
    have q448 : a1_1 < (l0.length : Int) := zA
    obtain ⟨ad448, e448, hx448_0⟩ := Kd.at_int HR0.1 a1_1 p448 q448
    cases e448
    replace hx448_0 := (HB.1.cell (World.block_lt_of_cell? w _ hx448_0)).trans hx448_0
    replace p448 := eq_true p448
    replace q448 := eq_true q448
    try go_wp2_with (first | ((with_reducible refine zG Try.func77 31 #[.int .i64 (rd l0 a1_1)] ?_); (with_reducible refine (spec_Decode.calls (rd l0 a1_1) t449 t450 t451 t452 t453 t454 _ A23.1).mono ?_); rintro e w28 ⟨rfl, hb⟩; refine ⟨_, rfl, ?_⟩; replace BK444 := zM (zb BK444.1 hb); replace BK445 := zM (zb BK445.1 hb); replace HB := zM (below_step zB1 hb); clear hb) | ((with_reducible refine zBx 8 71 #[.int .i64 0, .int .i64 0, .int .i64 0, .int .i64 0, .int .i64 0] ?_); intro gb455 hg w29 hbox hb; have BK455 := zM hbox; have GW455 := zM (zW hg (below_size zB1)); have GE455 := zM (zW hg (below_size zB1)); replace HB := zM (below_step zB1 hb); have NB444_455 := zM ((zn BK444.1 hg : gb444 ≠ gb455)); have NB455_444 := zM ((zm BK444.1 hg : gb455 ≠ gb444)); replace BK444 := zM (zb BK444.1 hb); have NB445_455 := zM ((zn BK445.1 hg : gb445 ≠ gb455)); have NB455_445 := zM ((zm BK445.1 hg : gb455 ≠ gb445)); replace BK445 := zM (zb BK445.1 hb); clear hb hbox hg; have hnb30 := NB455_444.1; have hnc30 := NB444_455.1; have hnb31 := NB455_445.1; have hnc31 := NB445_455.1; have hcz32 := zc_5 (w := w29) BK455.1))
    have n0_ : Aside0 ((((((w29.setCell ⟨gb455, 0, none⟩ (.int .i64 t449)).setCell ⟨gb455, 1, none⟩ (.int .i64 t450)).setCell ⟨gb455, 2, none⟩ (.int .i64 t451)).setCell ⟨gb455, 3, none⟩ (.int .i64 t452)).setCell ⟨gb455, 4, none⟩ (.int .i64 t453)).heap[gb444]? = some (.cells #[.slice A1_0 l1_0.length c1_0, .int .i64 a1_1, .int .i64 a1_2] 49 (0, 0))) := ⟨zPq⟩
    have n1_ : Aside0 ((((((w29.setCell ⟨gb455, 0, none⟩ (.int .i64 t449)).setCell ⟨gb455, 1, none⟩ (.int .i64 t450)).setCell ⟨gb455, 2, none⟩ (.int .i64 t451)).setCell ⟨gb455, 3, none⟩ (.int .i64 t452)).setCell ⟨gb455, 4, none⟩ (.int .i64 t453)).heap[gb445]? = some (.cells #[.int .i64 0, .int .i64 0, .int .i64 0, .int .i64 0, .int .i64 0] 31 (0, 0))) := ⟨zPq⟩
    have n2_ : Aside0 ((((((w29.setCell ⟨gb455, 0, none⟩ (.int .i64 t449)).setCell ⟨gb455, 1, none⟩ (.int .i64 t450)).setCell ⟨gb455, 2, none⟩ (.int .i64 t451)).setCell ⟨gb455, 3, none⟩ (.int .i64 t452)).setCell ⟨gb455, 4, none⟩ (.int .i64 t453)).heap[gb455]? = some (.cells #[.int .i64 t449, .int .i64 t450, .int .i64 t451, .int .i64 t452, .int .i64 t453] 71 (0, 0))) := ⟨by exact zp5 (zK BK455.1)⟩
    have n3_ : Aside0 (Below w.heap.size w (((((w29.setCell ⟨gb455, 0, none⟩ (.int .i64 t449)).setCell ⟨gb455, 1, none⟩ (.int .i64 t450)).setCell ⟨gb455, 2, none⟩ (.int .i64 t451)).setCell ⟨gb455, 3, none⟩ (.int .i64 t452)).setCell ⟨gb455, 4, none⟩ (.int .i64 t453))) := ⟨zB1⟩
    (try clear BK444)
    (try clear BK445)
    (try clear BK455)
    (try clear HB)
    generalize (((((w29.setCell ⟨gb455, 0, none⟩ (.int .i64 t449)).setCell ⟨gb455, 1, none⟩ (.int .i64 t450)).setCell ⟨gb455, 2, none⟩ (.int .i64 t451)).setCell ⟨gb455, 3, none⟩ (.int .i64 t452)).setCell ⟨gb455, 4, none⟩ (.int .i64 t453)) = w33 at n0_ n1_ n2_ n3_ ⊢
    have BK444 := n0_
    have BK445 := n1_
    have BK455 := n2_
    have HB := n3_
    clear n0_ n1_ n2_ n3_
    replace BK444 := zM (blk_drew BK444.1)
    replace BK445 := zM (blk_drew BK445.1)
    replace BK455 := zM (blk_drew BK455.1)
    replace HB := zM (below_drew1 HB.1)
    refine start_ (n := 10) (S := fun w' => w'.cell? ⟨gb444, 0, none⟩ = some (.slice A1_0 l1_0.length c1_0) ∧ w'.cell? ⟨gb444, 1, none⟩ = some (.int .i64 a1_1) ∧ w'.cell? ⟨gb444, 2, none⟩ = some (.int .i64 a1_2) ∧ w'.cell? ⟨gb455, 0, none⟩ = some (.int .i64 t449) ∧ w'.cell? ⟨gb455, 1, none⟩ = some (.int .i64 t450) ∧ w'.cell? ⟨gb455, 2, none⟩ = some (.int .i64 t451) ∧ w'.cell? ⟨gb455, 3, none⟩ = some (.int .i64 t452) ∧ w'.cell? ⟨gb455, 4, none⟩ = some (.int .i64 t453)) (ds := []) zq14_0 (by kernel_rfl) rfl rfl ⟨(blk_cell BK444.1 0).trans rfl, (blk_cell BK444.1 1).trans rfl, (blk_cell BK444.1 2).trans rfl, (blk_cell BK455.1 0).trans rfl, (blk_cell BK455.1 1).trans rfl, (blk_cell BK455.1 2).trans rfl, (blk_cell BK455.1 3).trans rfl, (blk_cell BK455.1 4).trans rfl⟩ (fun hHeld => ?_); refine with_tabW spec_EventOf.tab4 spec_EventOf.bits4 (fun HT_ HW_ => ?_)
    generalize w33.drew = w34 at BK444 BK445 BK455 HB hHeld ⊢
    refine zPu 0 ?_
    refine zPu 1 ?_
    refine zPu 4 ?_
    refine zTk8 2 hHeld ?_
    refine zTk8 3 hHeld ?_
    refine zTk8 5 hHeld ?_
    refine join_ (σ := Nat) 1 zq14_7 (fun s_ => [(40, .int .i64 t456), (10, .pointer (some ⟨s_, 0, none⟩)), (41, .agg #[.int .i64 a2, .int .i64 a1_1, .int .i64 t456, .int .i64 (-1), .int .i64 (-1)])]) (fun s_ w' => (w'.cell? ⟨gb444, 0, none⟩ = some (.slice A1_0 l1_0.length c1_0) ∧ w'.cell? ⟨gb444, 1, none⟩ = some (.int .i64 a1_1) ∧ w'.cell? ⟨gb444, 2, none⟩ = some (.int .i64 a1_2) ∧ w'.cell? ⟨gb455, 0, none⟩ = some (.int .i64 t449) ∧ w'.cell? ⟨gb455, 1, none⟩ = some (.int .i64 t450) ∧ w'.cell? ⟨gb455, 2, none⟩ = some (.int .i64 t451) ∧ w'.cell? ⟨gb455, 3, none⟩ = some (.int .i64 t452) ∧ w'.cell? ⟨gb455, 4, none⟩ = some (.int .i64 t453)) ∧ (w'.heap[gb444]? = some (.cells #[.slice A1_0 l1_0.length c1_0, .int .i64 a1_1, .int .i64 a1_2] 49 (0, 0))) ∧ (w'.heap[gb445]? = some (.cells #[.int .i64 0, .int .i64 0, .int .i64 0, .int .i64 0, .int .i64 0] 31 (0, 0))) ∧ (w'.heap[gb455]? = some (.cells #[.int .i64 t449, .int .i64 t450, .int .i64 t451, .int .i64 t452, .int .i64 t453] 71 (0, 0))) ∧ (w'.heap[s_]? = some (.cells #[.int .i64 0, .int .i64 0, .int .i64 0, .int .i64 0, .int .i64 0] 31 (0, 0))) ∧ (w.heap.size ≤ s_) ∧ (w.heap.size ≤ s_) ∧ (gb444 ≠ s_) ∧ (s_ ≠ gb444) ∧ (gb445 ≠ s_) ∧ (s_ ≠ gb445) ∧ (gb455 ≠ s_) ∧ (s_ ≠ gb455) ∧ (Below w.heap.size w w')) ?_ ?_
    rotate_left
    ·intro hCont
     refine two_ (i := 6) (j := 8) (Ni := some 40) (Nj := some 10) zq14_8 zq14_9 rfl rfl rfl rfl (two_of HT_.1 (by kernel_rfl)) (by decide) (by decide) (fun K hK => ?_) (fun K hK => ?_)
     ·refine zGs Try.func78 #[.agg #[.int .i64 t449, .int .i64 t450, .int .i64 t451, .int .i64 t452, .int .i64 t453], .slice A1_0 l1_0.length c1_0] ?_
      with_reducible refine (spec_Target.calls t449 t450 t451 t452 t453 _ _ l1_0 t456 _ ?side1 ?side2 A24.1).mono ?_
      (case side1 => exact zC (Kd.C_below HR1_0.1 HB.1))
      (case side2 => exact HC1_0.1)
      rintro e w35 ⟨rfl, hb⟩
      refine ⟨_, rfl, ?_⟩
      replace BK444 := zM (zb BK444.1 hb)
      replace BK445 := zM (zb BK445.1 hb)
      replace BK455 := zM (zb BK455.1 hb)
      replace HB := zM (below_step zB1 hb)
      refine hK.out _ _ zCs fun hHeld => ?_
      clear hK K
      refine zNo ?_
      refine zPu 7 ?_
      refine zOn 8 (some 10) fun K hK => ?_
      refine zBs 10 31 #[.int .i64 0, .int .i64 0, .int .i64 0, .int .i64 0, .int .i64 0] ?_
      intro gb457 hg w36 hbox hb
      replace BK457 := zM hbox
      replace GW457 := zM (zW hg (below_size zB1))
      replace GE457 := zM (zW hg (below_size zB1))
      replace HB := zM (below_step zB1 hb)
      replace NB444_457 := zM ((zn BK444.1 hg : gb444 ≠ gb457))
      replace NB457_444 := zM ((zm BK444.1 hg : gb457 ≠ gb444))
      replace BK444 := zM (zb BK444.1 hb)
      replace NB445_457 := zM ((zn BK445.1 hg : gb445 ≠ gb457))
      replace NB457_445 := zM ((zm BK445.1 hg : gb457 ≠ gb445))
      replace BK445 := zM (zb BK445.1 hb)
      replace NB455_457 := zM ((zn BK455.1 hg : gb455 ≠ gb457))
      replace NB457_455 := zM ((zm BK455.1 hg : gb457 ≠ gb455))
      replace BK455 := zM (zb BK455.1 hb)
      refine hK.out _ _ zCs fun hHeld => ?_
      clear hK K
      refine zNo ?_
      exact norm_ zNr (hCont (gb457) _ ⟨hHeld, (zK BK444.1), (zK BK445.1), (zK BK455.1), (zK BK457.1), GW457.1, GE457.1, NB444_457.1, NB457_444.1, NB445_457.1, NB457_445.1, NB455_457.1, NB457_455.1, zB1⟩)
     ·refine zBs 10 31 #[.int .i64 0, .int .i64 0, .int .i64 0, .int .i64 0, .int .i64 0] ?_
      intro gb457 hg w35 hbox hb
      replace BK457 := zM hbox
      replace GW457 := zM (zW hg (below_size zB1))
      replace GE457 := zM (zW hg (below_size zB1))
      replace HB := zM (below_step zB1 hb)
      replace NB444_457 := zM ((zn BK444.1 hg : gb444 ≠ gb457))
      replace NB457_444 := zM ((zm BK444.1 hg : gb457 ≠ gb444))
      replace BK444 := zM (zb BK444.1 hb)
      replace NB445_457 := zM ((zn BK445.1 hg : gb445 ≠ gb457))
      replace NB457_445 := zM ((zm BK445.1 hg : gb457 ≠ gb445))
      replace BK445 := zM (zb BK445.1 hb)
      replace NB455_457 := zM ((zn BK455.1 hg : gb455 ≠ gb457))
      replace NB457_455 := zM ((zm BK455.1 hg : gb457 ≠ gb455))
      replace BK455 := zM (zb BK455.1 hb)
      refine hK.out _ _ zCs fun hHeld => ?_
      clear hK K
      refine zNo ?_
      refine zOn 6 (some 40) fun K hK => ?_
      refine zGs Try.func78 #[.agg #[.int .i64 t449, .int .i64 t450, .int .i64 t451, .int .i64 t452, .int .i64 t453], .slice A1_0 l1_0.length c1_0] ?_
      with_reducible refine (spec_Target.calls t449 t450 t451 t452 t453 _ _ l1_0 t456 _ ?side1 ?side2 A24.1).mono ?_
      (case side1 => exact zC (Kd.C_below HR1_0.1 HB.1))
      (case side2 => exact HC1_0.1)
      rintro e w36 ⟨rfl, hb⟩
      refine ⟨_, rfl, ?_⟩
      replace BK444 := zM (zb BK444.1 hb)
      replace BK445 := zM (zb BK445.1 hb)
      replace BK455 := zM (zb BK455.1 hb)
      replace BK457 := zM (zb BK457.1 hb)
      replace HB := zM (below_step zB1 hb)
      refine hK.out _ _ zCs fun hHeld => ?_
      clear hK K
      refine zNo ?_
      refine zPu 7 ?_
      exact norm_ zNr (hCont (gb457) _ ⟨hHeld, (zK BK444.1), (zK BK445.1), (zK BK455.1), (zK BK457.1), GW457.1, GE457.1, NB444_457.1, NB457_444.1, NB445_457.1, NB457_445.1, NB455_457.1, NB457_455.1, zB1⟩)
    rintro gb457 w37 ⟨hS_, h0_, h1_, h2_, h3_, h4_, h5_, h6_, h7_, h8_, h9_, h10_, h11_, h12_⟩
    replace BK444 := zM h0_
    replace BK445 := zM h1_
    replace BK455 := zM h2_
    replace BK457 := zM h3_
    replace GW457 := zM h4_
    replace GE457 := zM h5_
    replace NB444_457 := zM h6_
    replace NB457_444 := zM h7_
    replace NB445_457 := zM h8_
    replace NB457_445 := zM h9_
    replace NB455_457 := zM h10_
    replace NB457_455 := zM h11_
    replace HB := zM h12_
    have hHeld : w37.cell? ⟨gb444, 0, none⟩ = some (.slice A1_0 l1_0.length c1_0) ∧ w37.cell? ⟨gb444, 1, none⟩ = some (.int .i64 a1_1) ∧ w37.cell? ⟨gb444, 2, none⟩ = some (.int .i64 a1_2) ∧ w37.cell? ⟨gb455, 0, none⟩ = some (.int .i64 t449) ∧ w37.cell? ⟨gb455, 1, none⟩ = some (.int .i64 t450) ∧ w37.cell? ⟨gb455, 2, none⟩ = some (.int .i64 t451) ∧ w37.cell? ⟨gb455, 3, none⟩ = some (.int .i64 t452) ∧ w37.cell? ⟨gb455, 4, none⟩ = some (.int .i64 t453) := hS_
    refine zNp ?_
    refine zOn 9 none fun K hK => ?_
    obtain ⟨hs38, hfs38⟩ := zHs BK457.1 0
    have hns38_0 := NB444_457.1
    have hns38_1 := NB445_457.1
    have hns38_2 := NB455_457.1
    have hms38_0 := NB457_444.1
    have hms38_1 := NB457_445.1
    have hms38_2 := NB457_455.1
    obtain ⟨hs39, hfs39⟩ := zHs BK457.1 1
    have hns39_0 := NB444_457.1
    have hns39_1 := NB445_457.1
    have hns39_2 := NB455_457.1
    have hms39_0 := NB457_444.1
    have hms39_1 := NB457_445.1
    have hms39_2 := NB457_455.1
    obtain ⟨hs40, hfs40⟩ := zHs BK457.1 2
    have hns40_0 := NB444_457.1
    have hns40_1 := NB445_457.1
    have hns40_2 := NB455_457.1
    have hms40_0 := NB457_444.1
    have hms40_1 := NB457_445.1
    have hms40_2 := NB457_455.1
    obtain ⟨hs41, hfs41⟩ := zHs BK457.1 3
    have hns41_0 := NB444_457.1
    have hns41_1 := NB445_457.1
    have hns41_2 := NB455_457.1
    have hms41_0 := NB457_444.1
    have hms41_1 := NB457_445.1
    have hms41_2 := NB457_455.1
    obtain ⟨hs42, hfs42⟩ := zHs BK457.1 4
    have hns42_0 := NB444_457.1
    have hns42_1 := NB445_457.1
    have hns42_2 := NB455_457.1
    have hms42_0 := NB457_444.1
    have hms42_1 := NB457_445.1
    have hms42_2 := NB457_455.1
    refine skip_ (w1 := ?_) (by rfl) rfl ?_ ?_
    rotate_left
    ·go_simp
     rfl
    refine hK.out _ _ zCs fun hHeld => ?_
    clear hK K
    refine done_ (done_of HT_.1 (by kernel_rfl)) ?_
    have hnb43 := NB457_444.1
    have hnc43 := NB444_457.1
    have hnb44 := NB457_445.1
    have hnc44 := NB445_457.1
    have hnb45 := NB457_455.1
    have hnc45 := NB455_457.1
    have hcz46 := zc_5 (w := w37) BK457.1
    have hcz47 := zc_5 (w := w37) BK445.1
    try go_wp2
    refine bodyPost_ret (results_ct rfl _ _ gb445 31 #[.int .i64 a2, .int .i64 a1_1, .int .i64 t456, .int .i64 (-1), .int .i64 (-1)] (0, 0) _ rfl zPq Try.underlying31 rfl (by kernel_rfl)) rfl ?_
    exact ⟨zE, zB1⟩
   rw [if_neg c25] at H
   have c25b0 := decide_eq_false c25
   clear c25
   replace H := zIt H
   obtain ⟨c48b0, H⟩ := H
   replace H := zIt H
   obtain ⟨c49b0, H⟩ := H
   replace H := zO H
   obtain ⟨⟨t459, t462, t463, t464⟩, A50, H⟩ := H
   try dsimp only at H
   by_cases c51 : t449 = 5
   ·rw [if_pos c51] at H
    have c51b0 : (t449 == 5) = true := beq_iff_eq.mpr c51
    have c51b1 : (t449 != 5) = false := bne_eq_false_iff_eq.mpr c51
    clear c51
    simp only [Option.some.injEq, Prod.mk.injEq] at H
    obtain ⟨rfl, rfl, rfl, rfl, rfl, rfl⟩ := H
    have hnb52 := NB444_445.1
    have hnc52 := NB445_444.1
    have hcz53 := zc_3 (w := wc) BK444.1
    have p448 : 0 ≤ (a1_1 : Int) := zA
    have q448 : a1_1 < (l0.length : Int) := zA
    obtain ⟨ad448, e448, hx448_0⟩ := Kd.at_int HR0.1 a1_1 p448 q448
    cases e448
    replace hx448_0 := (HB.1.cell (World.block_lt_of_cell? w _ hx448_0)).trans hx448_0
    replace p448 := eq_true p448
    replace q448 := eq_true q448
    try go_wp2_with (first | ((with_reducible refine zG Try.func77 31 #[.int .i64 (rd l0 a1_1)] ?_); (with_reducible refine (spec_Decode.calls (rd l0 a1_1) t449 t450 t451 t452 t453 t454 _ A23.1).mono ?_); rintro e w54 ⟨rfl, hb⟩; refine ⟨_, rfl, ?_⟩; replace BK444 := zM (zb BK444.1 hb); replace BK445 := zM (zb BK445.1 hb); replace HB := zM (below_step zB1 hb); clear hb) | ((with_reducible refine zBx 8 71 #[.int .i64 0, .int .i64 0, .int .i64 0, .int .i64 0, .int .i64 0] ?_); intro gb455 hg w55 hbox hb; have BK455 := zM hbox; have GW455 := zM (zW hg (below_size zB1)); have GE455 := zM (zW hg (below_size zB1)); replace HB := zM (below_step zB1 hb); have NB444_455 := zM ((zn BK444.1 hg : gb444 ≠ gb455)); have NB455_444 := zM ((zm BK444.1 hg : gb455 ≠ gb444)); replace BK444 := zM (zb BK444.1 hb); have NB445_455 := zM ((zn BK445.1 hg : gb445 ≠ gb455)); have NB455_445 := zM ((zm BK445.1 hg : gb455 ≠ gb445)); replace BK445 := zM (zb BK445.1 hb); clear hb hbox hg; have hnb56 := NB455_444.1; have hnc56 := NB444_455.1; have hnb57 := NB455_445.1; have hnc57 := NB445_455.1; have hcz58 := zc_5 (w := w55) BK455.1))
    have n0_ : Aside0 ((((((w55.setCell ⟨gb455, 0, none⟩ (.int .i64 t449)).setCell ⟨gb455, 1, none⟩ (.int .i64 t450)).setCell ⟨gb455, 2, none⟩ (.int .i64 t451)).setCell ⟨gb455, 3, none⟩ (.int .i64 t452)).setCell ⟨gb455, 4, none⟩ (.int .i64 t453)).heap[gb444]? = some (.cells #[.slice A1_0 l1_0.length c1_0, .int .i64 a1_1, .int .i64 a1_2] 49 (0, 0))) := ⟨zPq⟩
    have n1_ : Aside0 ((((((w55.setCell ⟨gb455, 0, none⟩ (.int .i64 t449)).setCell ⟨gb455, 1, none⟩ (.int .i64 t450)).setCell ⟨gb455, 2, none⟩ (.int .i64 t451)).setCell ⟨gb455, 3, none⟩ (.int .i64 t452)).setCell ⟨gb455, 4, none⟩ (.int .i64 t453)).heap[gb445]? = some (.cells #[.int .i64 0, .int .i64 0, .int .i64 0, .int .i64 0, .int .i64 0] 31 (0, 0))) := ⟨zPq⟩
    have n2_ : Aside0 ((((((w55.setCell ⟨gb455, 0, none⟩ (.int .i64 t449)).setCell ⟨gb455, 1, none⟩ (.int .i64 t450)).setCell ⟨gb455, 2, none⟩ (.int .i64 t451)).setCell ⟨gb455, 3, none⟩ (.int .i64 t452)).setCell ⟨gb455, 4, none⟩ (.int .i64 t453)).heap[gb455]? = some (.cells #[.int .i64 t449, .int .i64 t450, .int .i64 t451, .int .i64 t452, .int .i64 t453] 71 (0, 0))) := ⟨by exact zp5 (zK BK455.1)⟩
    have n3_ : Aside0 (Below w.heap.size w (((((w55.setCell ⟨gb455, 0, none⟩ (.int .i64 t449)).setCell ⟨gb455, 1, none⟩ (.int .i64 t450)).setCell ⟨gb455, 2, none⟩ (.int .i64 t451)).setCell ⟨gb455, 3, none⟩ (.int .i64 t452)).setCell ⟨gb455, 4, none⟩ (.int .i64 t453))) := ⟨zB1⟩
    (try clear BK444)
    (try clear BK445)
    (try clear BK455)
    (try clear HB)
    generalize (((((w55.setCell ⟨gb455, 0, none⟩ (.int .i64 t449)).setCell ⟨gb455, 1, none⟩ (.int .i64 t450)).setCell ⟨gb455, 2, none⟩ (.int .i64 t451)).setCell ⟨gb455, 3, none⟩ (.int .i64 t452)).setCell ⟨gb455, 4, none⟩ (.int .i64 t453)) = w59 at n0_ n1_ n2_ n3_ ⊢
    have BK444 := n0_
    have BK445 := n1_
    have BK455 := n2_
    have HB := n3_
    clear n0_ n1_ n2_ n3_
    replace BK444 := zM (blk_drew BK444.1)
    replace BK445 := zM (blk_drew BK445.1)
    replace BK455 := zM (blk_drew BK455.1)
    replace HB := zM (below_drew1 HB.1)
    refine start_ (n := 10) (S := fun w' => w'.cell? ⟨gb444, 0, none⟩ = some (.slice A1_0 l1_0.length c1_0) ∧ w'.cell? ⟨gb444, 1, none⟩ = some (.int .i64 a1_1) ∧ w'.cell? ⟨gb444, 2, none⟩ = some (.int .i64 a1_2) ∧ w'.cell? ⟨gb455, 0, none⟩ = some (.int .i64 t449) ∧ w'.cell? ⟨gb455, 1, none⟩ = some (.int .i64 t450) ∧ w'.cell? ⟨gb455, 2, none⟩ = some (.int .i64 t451) ∧ w'.cell? ⟨gb455, 3, none⟩ = some (.int .i64 t452) ∧ w'.cell? ⟨gb455, 4, none⟩ = some (.int .i64 t453)) (ds := []) zq14_0 (by kernel_rfl) rfl rfl ⟨(blk_cell BK444.1 0).trans rfl, (blk_cell BK444.1 1).trans rfl, (blk_cell BK444.1 2).trans rfl, (blk_cell BK455.1 0).trans rfl, (blk_cell BK455.1 1).trans rfl, (blk_cell BK455.1 2).trans rfl, (blk_cell BK455.1 3).trans rfl, (blk_cell BK455.1 4).trans rfl⟩ (fun hHeld => ?_); refine with_tabW spec_EventOf.tab4 spec_EventOf.bits4 (fun HT_ HW_ => ?_)
    generalize w59.drew = w60 at BK444 BK445 BK455 HB hHeld ⊢
    refine zPu 0 ?_
    refine zPu 1 ?_
    refine zPu 4 ?_
    refine zTk8 2 hHeld ?_
    refine zTk8 3 hHeld ?_
    refine zTk8 5 hHeld ?_
    refine join_ (σ := Nat) 1 zq14_7 (fun s_ => [(40, .int .i64 t456), (10, .pointer (some ⟨s_, 0, none⟩)), (41, .agg #[.int .i64 a2, .int .i64 a1_1, .int .i64 t456, .int .i64 (-1), .int .i64 (-1)])]) (fun s_ w' => (w'.cell? ⟨gb444, 0, none⟩ = some (.slice A1_0 l1_0.length c1_0) ∧ w'.cell? ⟨gb444, 1, none⟩ = some (.int .i64 a1_1) ∧ w'.cell? ⟨gb444, 2, none⟩ = some (.int .i64 a1_2) ∧ w'.cell? ⟨gb455, 0, none⟩ = some (.int .i64 t449) ∧ w'.cell? ⟨gb455, 1, none⟩ = some (.int .i64 t450) ∧ w'.cell? ⟨gb455, 2, none⟩ = some (.int .i64 t451) ∧ w'.cell? ⟨gb455, 3, none⟩ = some (.int .i64 t452) ∧ w'.cell? ⟨gb455, 4, none⟩ = some (.int .i64 t453)) ∧ (w'.heap[gb444]? = some (.cells #[.slice A1_0 l1_0.length c1_0, .int .i64 a1_1, .int .i64 a1_2] 49 (0, 0))) ∧ (w'.heap[gb445]? = some (.cells #[.int .i64 0, .int .i64 0, .int .i64 0, .int .i64 0, .int .i64 0] 31 (0, 0))) ∧ (w'.heap[gb455]? = some (.cells #[.int .i64 t449, .int .i64 t450, .int .i64 t451, .int .i64 t452, .int .i64 t453] 71 (0, 0))) ∧ (w'.heap[s_]? = some (.cells #[.int .i64 0, .int .i64 0, .int .i64 0, .int .i64 0, .int .i64 0] 31 (0, 0))) ∧ (w.heap.size ≤ s_) ∧ (w.heap.size ≤ s_) ∧ (gb444 ≠ s_) ∧ (s_ ≠ gb444) ∧ (gb445 ≠ s_) ∧ (s_ ≠ gb445) ∧ (gb455 ≠ s_) ∧ (s_ ≠ gb455) ∧ (Below w.heap.size w w')) ?_ ?_
    rotate_left
    ·intro hCont
     refine two_ (i := 6) (j := 8) (Ni := some 40) (Nj := some 10) zq14_8 zq14_9 rfl rfl rfl rfl (two_of HT_.1 (by kernel_rfl)) (by decide) (by decide) (fun K hK => ?_) (fun K hK => ?_)
     ·refine zGs Try.func78 #[.agg #[.int .i64 t449, .int .i64 t450, .int .i64 t451, .int .i64 t452, .int .i64 t453], .slice A1_0 l1_0.length c1_0] ?_
      with_reducible refine (spec_Target.calls t449 t450 t451 t452 t453 _ _ l1_0 t456 _ ?side1 ?side2 A24.1).mono ?_
      (case side1 => exact zC (Kd.C_below HR1_0.1 HB.1))
      (case side2 => exact HC1_0.1)
      rintro e w61 ⟨rfl, hb⟩
      refine ⟨_, rfl, ?_⟩
      replace BK444 := zM (zb BK444.1 hb)
      replace BK445 := zM (zb BK445.1 hb)
      replace BK455 := zM (zb BK455.1 hb)
      replace HB := zM (below_step zB1 hb)
      refine hK.out _ _ zCs fun hHeld => ?_
      clear hK K
      refine zNo ?_
      refine zPu 7 ?_
      refine zOn 8 (some 10) fun K hK => ?_
      refine zBs 10 31 #[.int .i64 0, .int .i64 0, .int .i64 0, .int .i64 0, .int .i64 0] ?_
      intro gb457 hg w62 hbox hb
      replace BK457 := zM hbox
      replace GW457 := zM (zW hg (below_size zB1))
      replace GE457 := zM (zW hg (below_size zB1))
      replace HB := zM (below_step zB1 hb)
      replace NB444_457 := zM ((zn BK444.1 hg : gb444 ≠ gb457))
      replace NB457_444 := zM ((zm BK444.1 hg : gb457 ≠ gb444))
      replace BK444 := zM (zb BK444.1 hb)
      replace NB445_457 := zM ((zn BK445.1 hg : gb445 ≠ gb457))
      replace NB457_445 := zM ((zm BK445.1 hg : gb457 ≠ gb445))
      replace BK445 := zM (zb BK445.1 hb)
      replace NB455_457 := zM ((zn BK455.1 hg : gb455 ≠ gb457))
      replace NB457_455 := zM ((zm BK455.1 hg : gb457 ≠ gb455))
      replace BK455 := zM (zb BK455.1 hb)
      refine hK.out _ _ zCs fun hHeld => ?_
      clear hK K
      refine zNo ?_
      exact norm_ zNr (hCont (gb457) _ ⟨hHeld, (zK BK444.1), (zK BK445.1), (zK BK455.1), (zK BK457.1), GW457.1, GE457.1, NB444_457.1, NB457_444.1, NB445_457.1, NB457_445.1, NB455_457.1, NB457_455.1, zB1⟩)
     ·refine zBs 10 31 #[.int .i64 0, .int .i64 0, .int .i64 0, .int .i64 0, .int .i64 0] ?_
      intro gb457 hg w61 hbox hb
      replace BK457 := zM hbox
      replace GW457 := zM (zW hg (below_size zB1))
      replace GE457 := zM (zW hg (below_size zB1))
      replace HB := zM (below_step zB1 hb)
      replace NB444_457 := zM ((zn BK444.1 hg : gb444 ≠ gb457))
      replace NB457_444 := zM ((zm BK444.1 hg : gb457 ≠ gb444))
      replace BK444 := zM (zb BK444.1 hb)
      replace NB445_457 := zM ((zn BK445.1 hg : gb445 ≠ gb457))
      replace NB457_445 := zM ((zm BK445.1 hg : gb457 ≠ gb445))
      replace BK445 := zM (zb BK445.1 hb)
      replace NB455_457 := zM ((zn BK455.1 hg : gb455 ≠ gb457))
      replace NB457_455 := zM ((zm BK455.1 hg : gb457 ≠ gb455))
      replace BK455 := zM (zb BK455.1 hb)
      refine hK.out _ _ zCs fun hHeld => ?_
      clear hK K
      refine zNo ?_
      refine zOn 6 (some 40) fun K hK => ?_
      refine zGs Try.func78 #[.agg #[.int .i64 t449, .int .i64 t450, .int .i64 t451, .int .i64 t452, .int .i64 t453], .slice A1_0 l1_0.length c1_0] ?_
      with_reducible refine (spec_Target.calls t449 t450 t451 t452 t453 _ _ l1_0 t456 _ ?side1 ?side2 A24.1).mono ?_
      (case side1 => exact zC (Kd.C_below HR1_0.1 HB.1))
      (case side2 => exact HC1_0.1)
      rintro e w62 ⟨rfl, hb⟩
      refine ⟨_, rfl, ?_⟩
      replace BK444 := zM (zb BK444.1 hb)
      replace BK445 := zM (zb BK445.1 hb)
      replace BK455 := zM (zb BK455.1 hb)
      replace BK457 := zM (zb BK457.1 hb)
      replace HB := zM (below_step zB1 hb)
      refine hK.out _ _ zCs fun hHeld => ?_
      clear hK K
      refine zNo ?_
      refine zPu 7 ?_
      exact norm_ zNr (hCont (gb457) _ ⟨hHeld, (zK BK444.1), (zK BK445.1), (zK BK455.1), (zK BK457.1), GW457.1, GE457.1, NB444_457.1, NB457_444.1, NB445_457.1, NB457_445.1, NB455_457.1, NB457_455.1, zB1⟩)
    rintro gb457 w63 ⟨hS_, h0_, h1_, h2_, h3_, h4_, h5_, h6_, h7_, h8_, h9_, h10_, h11_, h12_⟩
    replace BK444 := zM h0_
    replace BK445 := zM h1_
    replace BK455 := zM h2_
    replace BK457 := zM h3_
    replace GW457 := zM h4_
    replace GE457 := zM h5_
    replace NB444_457 := zM h6_
    replace NB457_444 := zM h7_
    replace NB445_457 := zM h8_
    replace NB457_445 := zM h9_
    replace NB455_457 := zM h10_
    replace NB457_455 := zM h11_
    replace HB := zM h12_
    have hHeld : w63.cell? ⟨gb444, 0, none⟩ = some (.slice A1_0 l1_0.length c1_0) ∧ w63.cell? ⟨gb444, 1, none⟩ = some (.int .i64 a1_1) ∧ w63.cell? ⟨gb444, 2, none⟩ = some (.int .i64 a1_2) ∧ w63.cell? ⟨gb455, 0, none⟩ = some (.int .i64 t449) ∧ w63.cell? ⟨gb455, 1, none⟩ = some (.int .i64 t450) ∧ w63.cell? ⟨gb455, 2, none⟩ = some (.int .i64 t451) ∧ w63.cell? ⟨gb455, 3, none⟩ = some (.int .i64 t452) ∧ w63.cell? ⟨gb455, 4, none⟩ = some (.int .i64 t453) := hS_
    refine zNp ?_
    refine zOn 9 none fun K hK => ?_
    obtain ⟨hs64, hfs64⟩ := zHs BK457.1 0
    have hns64_0 := NB444_457.1
    have hns64_1 := NB445_457.1
    have hns64_2 := NB455_457.1
    have hms64_0 := NB457_444.1
    have hms64_1 := NB457_445.1
    have hms64_2 := NB457_455.1
    obtain ⟨hs65, hfs65⟩ := zHs BK457.1 1
    have hns65_0 := NB444_457.1
    have hns65_1 := NB445_457.1
    have hns65_2 := NB455_457.1
    have hms65_0 := NB457_444.1
    have hms65_1 := NB457_445.1
    have hms65_2 := NB457_455.1
    obtain ⟨hs66, hfs66⟩ := zHs BK457.1 2
    have hns66_0 := NB444_457.1
    have hns66_1 := NB445_457.1
    have hns66_2 := NB455_457.1
    have hms66_0 := NB457_444.1
    have hms66_1 := NB457_445.1
    have hms66_2 := NB457_455.1
    obtain ⟨hs67, hfs67⟩ := zHs BK457.1 3
    have hns67_0 := NB444_457.1
    have hns67_1 := NB445_457.1
    have hns67_2 := NB455_457.1
    have hms67_0 := NB457_444.1
    have hms67_1 := NB457_445.1
    have hms67_2 := NB457_455.1
    obtain ⟨hs68, hfs68⟩ := zHs BK457.1 4
    have hns68_0 := NB444_457.1
    have hns68_1 := NB445_457.1
    have hns68_2 := NB455_457.1
    have hms68_0 := NB457_444.1
    have hms68_1 := NB457_445.1
    have hms68_2 := NB457_455.1
    refine skip_ (w1 := ?_) (by rfl) rfl ?_ ?_
    rotate_left
    ·go_simp
     rfl
    refine hK.out _ _ zCs fun hHeld => ?_
    clear hK K
    refine done_ (done_of HT_.1 (by kernel_rfl)) ?_
    have hnb69 := NB457_444.1
    have hnc69 := NB444_457.1
    have hnb70 := NB457_445.1
    have hnc70 := NB445_457.1
    have hnb71 := NB457_455.1
    have hnc71 := NB455_457.1
    have hcz72 := zc_5 (w := w63) BK457.1
    try go_wp2
    have n0_ : Aside0 ((((((w63.setCell ⟨gb457, 0, none⟩ (.int .i64 a2)).setCell ⟨gb457, 1, none⟩ (.int .i64 a1_1)).setCell ⟨gb457, 2, none⟩ (.int .i64 t456)).setCell ⟨gb457, 3, none⟩ (.int .i64 (-1))).setCell ⟨gb457, 4, none⟩ (.int .i64 (-1))).heap[gb444]? = some (.cells #[.slice A1_0 l1_0.length c1_0, .int .i64 a1_1, .int .i64 a1_2] 49 (0, 0))) := ⟨zPq⟩
    have n1_ : Aside0 ((((((w63.setCell ⟨gb457, 0, none⟩ (.int .i64 a2)).setCell ⟨gb457, 1, none⟩ (.int .i64 a1_1)).setCell ⟨gb457, 2, none⟩ (.int .i64 t456)).setCell ⟨gb457, 3, none⟩ (.int .i64 (-1))).setCell ⟨gb457, 4, none⟩ (.int .i64 (-1))).heap[gb445]? = some (.cells #[.int .i64 0, .int .i64 0, .int .i64 0, .int .i64 0, .int .i64 0] 31 (0, 0))) := ⟨zPq⟩
    have n2_ : Aside0 ((((((w63.setCell ⟨gb457, 0, none⟩ (.int .i64 a2)).setCell ⟨gb457, 1, none⟩ (.int .i64 a1_1)).setCell ⟨gb457, 2, none⟩ (.int .i64 t456)).setCell ⟨gb457, 3, none⟩ (.int .i64 (-1))).setCell ⟨gb457, 4, none⟩ (.int .i64 (-1))).heap[gb455]? = some (.cells #[.int .i64 t449, .int .i64 t450, .int .i64 t451, .int .i64 t452, .int .i64 t453] 71 (0, 0))) := ⟨zPq⟩
    have n3_ : Aside0 ((((((w63.setCell ⟨gb457, 0, none⟩ (.int .i64 a2)).setCell ⟨gb457, 1, none⟩ (.int .i64 a1_1)).setCell ⟨gb457, 2, none⟩ (.int .i64 t456)).setCell ⟨gb457, 3, none⟩ (.int .i64 (-1))).setCell ⟨gb457, 4, none⟩ (.int .i64 (-1))).heap[gb457]? = some (.cells #[.int .i64 a2, .int .i64 a1_1, .int .i64 t456, .int .i64 (-1), .int .i64 (-1)] 31 (0, 0))) := ⟨by exact zp5 (zK BK457.1)⟩
    have n4_ : Aside0 (Below w.heap.size w (((((w63.setCell ⟨gb457, 0, none⟩ (.int .i64 a2)).setCell ⟨gb457, 1, none⟩ (.int .i64 a1_1)).setCell ⟨gb457, 2, none⟩ (.int .i64 t456)).setCell ⟨gb457, 3, none⟩ (.int .i64 (-1))).setCell ⟨gb457, 4, none⟩ (.int .i64 (-1)))) := ⟨zB1⟩
    (try clear BK444)
    (try clear BK445)
    (try clear BK455)
    (try clear BK457)
    (try clear HB)
    generalize (((((w63.setCell ⟨gb457, 0, none⟩ (.int .i64 a2)).setCell ⟨gb457, 1, none⟩ (.int .i64 a1_1)).setCell ⟨gb457, 2, none⟩ (.int .i64 t456)).setCell ⟨gb457, 3, none⟩ (.int .i64 (-1))).setCell ⟨gb457, 4, none⟩ (.int .i64 (-1))) = w73 at n0_ n1_ n2_ n3_ n4_ ⊢
    have BK444 := n0_
    have BK445 := n1_
    have BK455 := n2_
    have BK457 := n3_
    have HB := n4_
    clear n0_ n1_ n2_ n3_ n4_
    replace BK444 := zM (blk_drew BK444.1)
    replace BK445 := zM (blk_drew BK445.1)
    replace BK455 := zM (blk_drew BK455.1)
    replace BK457 := zM (blk_drew BK457.1)
    replace HB := zM (below_drew1 HB.1)
    have p458 : 0 ≤ (t456 : Int) := zA
    have q458 : t456 < (l0.length : Int) := zA
    obtain ⟨ad458, e458, hx458_0⟩ := Kd.at_int HR0.1 t456 p458 q458
    have hw458_0 := hx458_0
    obtain rfl : ad448 = ad458 := (by injection e458)
    replace hx458_0 := (HB.1.cell (World.block_lt_of_cell? w _ hx458_0)).trans hx458_0
    replace p458 := eq_true p458
    replace q458 := eq_true q458
    refine start_ (n := 13) (S := fun w' => w'.cell? ⟨gb444, 0, none⟩ = some (.slice A1_0 l1_0.length c1_0) ∧ w'.cell? ⟨gb444, 1, none⟩ = some (.int .i64 a1_1) ∧ w'.cell? ⟨gb444, 2, none⟩ = some (.int .i64 a1_2) ∧ w'.cell? ⟨gb455, 0, none⟩ = some (.int .i64 t449) ∧ w'.cell? ⟨gb455, 1, none⟩ = some (.int .i64 t450) ∧ w'.cell? ⟨gb455, 2, none⟩ = some (.int .i64 t451) ∧ w'.cell? ⟨gb455, 3, none⟩ = some (.int .i64 t452) ∧ w'.cell? ⟨gb455, 4, none⟩ = some (.int .i64 t453) ∧ w'.cell? ⟨gb457, 0, none⟩ = some (.int .i64 a2) ∧ w'.cell? ⟨gb457, 1, none⟩ = some (.int .i64 a1_1) ∧ w'.cell? ⟨gb457, 2, none⟩ = some (.int .i64 t456) ∧ w'.cell? ⟨gb457, 3, none⟩ = some (.int .i64 (-1)) ∧ w'.cell? ⟨gb457, 4, none⟩ = some (.int .i64 (-1)) ∧ w'.cell? (ad448.add (t456).toNat) = some (.int .i64 (rd l0 t456))) (ds := [12]) zq14_13 (by kernel_rfl) rfl rfl ⟨(blk_cell BK444.1 0).trans rfl, (blk_cell BK444.1 1).trans rfl, (blk_cell BK444.1 2).trans rfl, (blk_cell BK455.1 0).trans rfl, (blk_cell BK455.1 1).trans rfl, (blk_cell BK455.1 2).trans rfl, (blk_cell BK455.1 3).trans rfl, (blk_cell BK455.1 4).trans rfl, (blk_cell BK457.1 0).trans rfl, (blk_cell BK457.1 1).trans rfl, (blk_cell BK457.1 2).trans rfl, (blk_cell BK457.1 3).trans rfl, (blk_cell BK457.1 4).trans rfl, ((HB.1.cell (World.block_lt_of_cell? w _ hw458_0)).trans hw458_0)⟩ (fun hHeld => ?_); refine with_tabW spec_EventOf.tab7 spec_EventOf.bits7 (fun HT_ HW_ => ?_)
    generalize w73.drew = w74 at BK444 BK445 BK455 BK457 HB hx458_0 hHeld ⊢
    refine zPu 2 ?_
    refine zPu 3 ?_
    refine zTk14 0 hHeld ?_
    refine zTk14 1 hHeld ?_
    refine zTk14 4 hHeld ?_
    refine zPu 5 ?_
    refine zTk14 6 hHeld ?_
    refine zOn 7 (some 54) fun K hK => ?_
    refine zGs Try.func79 #[.agg #[.slice A1_0 l1_0.length c1_0, .int .i64 a1_1, .int .i64 a1_2], .agg #[.int .i64 t449, .int .i64 t450, .int .i64 t451, .int .i64 t452, .int .i64 t453], .int .i64 (rd l0 t456)] ?_
    with_reducible refine (spec_Work.calls kj3 _ _ l1_0 a1_1 a1_2 t449 t450 t451 t452 t453 (rd l0 t456) t459 t462 t463 t464 _ ?side1 ?side2 A50.1).mono ?_
    (case side1 => exact zC (Kd.C_below HR1_0.1 HB.1))
    (case side2 => exact HC1_0.1)
    rintro e w75 ⟨v460, rfl, ho0, hb⟩
    refine ⟨_, rfl, ?_⟩
    have HO461 := zM (Kd.R_lower ho0 (below_size zB1))
    replace BK444 := zM (zb BK444.1 hb)
    replace BK445 := zM (zb BK445.1 hb)
    replace BK455 := zM (zb BK455.1 hb)
    replace BK457 := zM (zb BK457.1 hb)
    replace HB := zM (below_step zB1 hb)
    (try clear ho0)
    refine hK.out _ _ ⟨(blk_cell BK444.1 0).trans rfl, (blk_cell BK444.1 1).trans rfl, (blk_cell BK444.1 2).trans rfl, (blk_cell BK455.1 0).trans rfl, (blk_cell BK455.1 1).trans rfl, (blk_cell BK455.1 2).trans rfl, (blk_cell BK455.1 3).trans rfl, (blk_cell BK455.1 4).trans rfl, (blk_cell BK457.1 0).trans rfl, (blk_cell BK457.1 1).trans rfl, (blk_cell BK457.1 2).trans rfl, (blk_cell BK457.1 3).trans rfl, (blk_cell BK457.1 4).trans rfl, ((HB.1.cell (World.block_lt_of_cell? w _ hw458_0)).trans hw458_0)⟩ (fun hHeld => ?_)
    clear hK K
    refine zNo ?_
    refine zPu 8 ?_
    refine zPu 9 ?_
    refine zPu 10 ?_
    refine zPu 11 ?_
    refine last_ (i := 12) (N := none) zq14_26 rfl rfl (one_of HT_.1 (by kernel_rfl)) (by decide) (fun K hK => ?_)
    obtain ⟨hs76, hfs76⟩ := zHs BK457.1 4
    have hns76_0 := NB444_457.1
    have hns76_1 := NB445_457.1
    have hns76_2 := NB455_457.1
    have hms76_0 := NB457_444.1
    have hms76_1 := NB457_445.1
    have hms76_2 := NB457_455.1
    refine skip_ (w1 := ?_) (by rfl) rfl ?_ ?_
    rotate_left
    ·go_simp
     rfl
    refine hK.out _ _ ?_
    clear hK K
    refine done_ (done_of HT_.1 (by kernel_rfl)) ?_
    have hcz77 := zc_5 (w := w75) BK455.1
    have hcz78 := zc_5 (w := w75) BK457.1
    have hcz79 := zc_5 (w := w75) BK445.1
    try go_wp2
    refine bodyPost_ret (results_ct rfl _ _ gb445 31 #[.int .i64 a2, .int .i64 a1_1, .int .i64 t456, .int .i64 (-1), .int .i64 t464] (0, 0) _ rfl zPq Try.underlying31 rfl (by kernel_rfl)) rfl ?_
    exact ⟨zE, zB1⟩
   rw [if_neg c51] at H
   have c51b0 : (t449 == 5) = false := beq_eq_false_iff_ne.mpr c51
   have c51b1 : (t449 != 5) = true := bne_iff_ne.mpr c51
   simp only [Option.some.injEq, Prod.mk.injEq] at H
   obtain ⟨rfl, rfl, rfl, rfl, rfl, rfl⟩ := H
   have hnb80 := NB444_445.1
   have hnc80 := NB445_444.1
   have hcz81 := zc_3 (w := wc) BK444.1
   have p448 : 0 ≤ (a1_1 : Int) := zA
   have q448 : a1_1 < (l0.length : Int) := zA
   obtain ⟨ad448, e448, hx448_0⟩ := Kd.at_int HR0.1 a1_1 p448 q448
   cases e448
   replace hx448_0 := (HB.1.cell (World.block_lt_of_cell? w _ hx448_0)).trans hx448_0
   replace p448 := eq_true p448
   replace q448 := eq_true q448
   try go_wp2_with (first | ((with_reducible refine zG Try.func77 31 #[.int .i64 (rd l0 a1_1)] ?_); (with_reducible refine (spec_Decode.calls (rd l0 a1_1) t449 t450 t451 t452 t453 t454 _ A23.1).mono ?_); rintro e w82 ⟨rfl, hb⟩; refine ⟨_, rfl, ?_⟩; replace BK444 := zM (zb BK444.1 hb); replace BK445 := zM (zb BK445.1 hb); replace HB := zM (below_step zB1 hb); clear hb) | ((with_reducible refine zBx 8 71 #[.int .i64 0, .int .i64 0, .int .i64 0, .int .i64 0, .int .i64 0] ?_); intro gb455 hg w83 hbox hb; have BK455 := zM hbox; have GW455 := zM (zW hg (below_size zB1)); have GE455 := zM (zW hg (below_size zB1)); replace HB := zM (below_step zB1 hb); have NB444_455 := zM ((zn BK444.1 hg : gb444 ≠ gb455)); have NB455_444 := zM ((zm BK444.1 hg : gb455 ≠ gb444)); replace BK444 := zM (zb BK444.1 hb); have NB445_455 := zM ((zn BK445.1 hg : gb445 ≠ gb455)); have NB455_445 := zM ((zm BK445.1 hg : gb455 ≠ gb445)); replace BK445 := zM (zb BK445.1 hb); clear hb hbox hg; have hnb84 := NB455_444.1; have hnc84 := NB444_455.1; have hnb85 := NB455_445.1; have hnc85 := NB445_455.1; have hcz86 := zc_5 (w := w83) BK455.1))
   have n0_ : Aside0 ((((((w83.setCell ⟨gb455, 0, none⟩ (.int .i64 t449)).setCell ⟨gb455, 1, none⟩ (.int .i64 t450)).setCell ⟨gb455, 2, none⟩ (.int .i64 t451)).setCell ⟨gb455, 3, none⟩ (.int .i64 t452)).setCell ⟨gb455, 4, none⟩ (.int .i64 t453)).heap[gb444]? = some (.cells #[.slice A1_0 l1_0.length c1_0, .int .i64 a1_1, .int .i64 a1_2] 49 (0, 0))) := ⟨zPq⟩
   have n1_ : Aside0 ((((((w83.setCell ⟨gb455, 0, none⟩ (.int .i64 t449)).setCell ⟨gb455, 1, none⟩ (.int .i64 t450)).setCell ⟨gb455, 2, none⟩ (.int .i64 t451)).setCell ⟨gb455, 3, none⟩ (.int .i64 t452)).setCell ⟨gb455, 4, none⟩ (.int .i64 t453)).heap[gb445]? = some (.cells #[.int .i64 0, .int .i64 0, .int .i64 0, .int .i64 0, .int .i64 0] 31 (0, 0))) := ⟨zPq⟩
   have n2_ : Aside0 ((((((w83.setCell ⟨gb455, 0, none⟩ (.int .i64 t449)).setCell ⟨gb455, 1, none⟩ (.int .i64 t450)).setCell ⟨gb455, 2, none⟩ (.int .i64 t451)).setCell ⟨gb455, 3, none⟩ (.int .i64 t452)).setCell ⟨gb455, 4, none⟩ (.int .i64 t453)).heap[gb455]? = some (.cells #[.int .i64 t449, .int .i64 t450, .int .i64 t451, .int .i64 t452, .int .i64 t453] 71 (0, 0))) := ⟨by exact zp5 (zK BK455.1)⟩
   have n3_ : Aside0 (Below w.heap.size w (((((w83.setCell ⟨gb455, 0, none⟩ (.int .i64 t449)).setCell ⟨gb455, 1, none⟩ (.int .i64 t450)).setCell ⟨gb455, 2, none⟩ (.int .i64 t451)).setCell ⟨gb455, 3, none⟩ (.int .i64 t452)).setCell ⟨gb455, 4, none⟩ (.int .i64 t453))) := ⟨zB1⟩
   (try clear BK444)
   (try clear BK445)
   (try clear BK455)
   (try clear HB)
   generalize (((((w83.setCell ⟨gb455, 0, none⟩ (.int .i64 t449)).setCell ⟨gb455, 1, none⟩ (.int .i64 t450)).setCell ⟨gb455, 2, none⟩ (.int .i64 t451)).setCell ⟨gb455, 3, none⟩ (.int .i64 t452)).setCell ⟨gb455, 4, none⟩ (.int .i64 t453)) = w87 at n0_ n1_ n2_ n3_ ⊢
   have BK444 := n0_
   have BK445 := n1_
   have BK455 := n2_
   have HB := n3_
   clear n0_ n1_ n2_ n3_
   replace BK444 := zM (blk_drew BK444.1)
   replace BK445 := zM (blk_drew BK445.1)
   replace BK455 := zM (blk_drew BK455.1)
   replace HB := zM (below_drew1 HB.1)
   refine start_ (n := 10) (S := fun w' => w'.cell? ⟨gb444, 0, none⟩ = some (.slice A1_0 l1_0.length c1_0) ∧ w'.cell? ⟨gb444, 1, none⟩ = some (.int .i64 a1_1) ∧ w'.cell? ⟨gb444, 2, none⟩ = some (.int .i64 a1_2) ∧ w'.cell? ⟨gb455, 0, none⟩ = some (.int .i64 t449) ∧ w'.cell? ⟨gb455, 1, none⟩ = some (.int .i64 t450) ∧ w'.cell? ⟨gb455, 2, none⟩ = some (.int .i64 t451) ∧ w'.cell? ⟨gb455, 3, none⟩ = some (.int .i64 t452) ∧ w'.cell? ⟨gb455, 4, none⟩ = some (.int .i64 t453)) (ds := []) zq14_0 (by kernel_rfl) rfl rfl ⟨(blk_cell BK444.1 0).trans rfl, (blk_cell BK444.1 1).trans rfl, (blk_cell BK444.1 2).trans rfl, (blk_cell BK455.1 0).trans rfl, (blk_cell BK455.1 1).trans rfl, (blk_cell BK455.1 2).trans rfl, (blk_cell BK455.1 3).trans rfl, (blk_cell BK455.1 4).trans rfl⟩ (fun hHeld => ?_); refine with_tabW spec_EventOf.tab4 spec_EventOf.bits4 (fun HT_ HW_ => ?_)
   generalize w87.drew = w88 at BK444 BK445 BK455 HB hHeld ⊢
   refine zPu 0 ?_
   refine zPu 1 ?_
   refine zPu 4 ?_
   refine zTk8 2 hHeld ?_
   refine zTk8 3 hHeld ?_
   refine zTk8 5 hHeld ?_
   refine join_ (σ := Nat) 1 zq14_7 (fun s_ => [(40, .int .i64 t456), (10, .pointer (some ⟨s_, 0, none⟩)), (41, .agg #[.int .i64 a2, .int .i64 a1_1, .int .i64 t456, .int .i64 (-1), .int .i64 (-1)])]) (fun s_ w' => (w'.cell? ⟨gb444, 0, none⟩ = some (.slice A1_0 l1_0.length c1_0) ∧ w'.cell? ⟨gb444, 1, none⟩ = some (.int .i64 a1_1) ∧ w'.cell? ⟨gb444, 2, none⟩ = some (.int .i64 a1_2) ∧ w'.cell? ⟨gb455, 0, none⟩ = some (.int .i64 t449) ∧ w'.cell? ⟨gb455, 1, none⟩ = some (.int .i64 t450) ∧ w'.cell? ⟨gb455, 2, none⟩ = some (.int .i64 t451) ∧ w'.cell? ⟨gb455, 3, none⟩ = some (.int .i64 t452) ∧ w'.cell? ⟨gb455, 4, none⟩ = some (.int .i64 t453)) ∧ (w'.heap[gb444]? = some (.cells #[.slice A1_0 l1_0.length c1_0, .int .i64 a1_1, .int .i64 a1_2] 49 (0, 0))) ∧ (w'.heap[gb445]? = some (.cells #[.int .i64 0, .int .i64 0, .int .i64 0, .int .i64 0, .int .i64 0] 31 (0, 0))) ∧ (w'.heap[gb455]? = some (.cells #[.int .i64 t449, .int .i64 t450, .int .i64 t451, .int .i64 t452, .int .i64 t453] 71 (0, 0))) ∧ (w'.heap[s_]? = some (.cells #[.int .i64 0, .int .i64 0, .int .i64 0, .int .i64 0, .int .i64 0] 31 (0, 0))) ∧ (w.heap.size ≤ s_) ∧ (w.heap.size ≤ s_) ∧ (gb444 ≠ s_) ∧ (s_ ≠ gb444) ∧ (gb445 ≠ s_) ∧ (s_ ≠ gb445) ∧ (gb455 ≠ s_) ∧ (s_ ≠ gb455) ∧ (Below w.heap.size w w')) ?_ ?_
   rotate_left
   ·intro hCont
    refine two_ (i := 6) (j := 8) (Ni := some 40) (Nj := some 10) zq14_8 zq14_9 rfl rfl rfl rfl (two_of HT_.1 (by kernel_rfl)) (by decide) (by decide) (fun K hK => ?_) (fun K hK => ?_)
    ·refine zGs Try.func78 #[.agg #[.int .i64 t449, .int .i64 t450, .int .i64 t451, .int .i64 t452, .int .i64 t453], .slice A1_0 l1_0.length c1_0] ?_
     with_reducible refine (spec_Target.calls t449 t450 t451 t452 t453 _ _ l1_0 t456 _ ?side1 ?side2 A24.1).mono ?_
     (case side1 => exact zC (Kd.C_below HR1_0.1 HB.1))
     (case side2 => exact HC1_0.1)
     rintro e w89 ⟨rfl, hb⟩
     refine ⟨_, rfl, ?_⟩
     replace BK444 := zM (zb BK444.1 hb)
     replace BK445 := zM (zb BK445.1 hb)
     replace BK455 := zM (zb BK455.1 hb)
     replace HB := zM (below_step zB1 hb)
     refine hK.out _ _ zCs fun hHeld => ?_
     clear hK K
     refine zNo ?_
     refine zPu 7 ?_
     refine zOn 8 (some 10) fun K hK => ?_
     refine zBs 10 31 #[.int .i64 0, .int .i64 0, .int .i64 0, .int .i64 0, .int .i64 0] ?_
     intro gb457 hg w90 hbox hb
     replace BK457 := zM hbox
     replace GW457 := zM (zW hg (below_size zB1))
     replace GE457 := zM (zW hg (below_size zB1))
     replace HB := zM (below_step zB1 hb)
     replace NB444_457 := zM ((zn BK444.1 hg : gb444 ≠ gb457))
     replace NB457_444 := zM ((zm BK444.1 hg : gb457 ≠ gb444))
     replace BK444 := zM (zb BK444.1 hb)
     replace NB445_457 := zM ((zn BK445.1 hg : gb445 ≠ gb457))
     replace NB457_445 := zM ((zm BK445.1 hg : gb457 ≠ gb445))
     replace BK445 := zM (zb BK445.1 hb)
     replace NB455_457 := zM ((zn BK455.1 hg : gb455 ≠ gb457))
     replace NB457_455 := zM ((zm BK455.1 hg : gb457 ≠ gb455))
     replace BK455 := zM (zb BK455.1 hb)
     refine hK.out _ _ zCs fun hHeld => ?_
     clear hK K
     refine zNo ?_
     exact norm_ zNr (hCont (gb457) _ ⟨hHeld, (zK BK444.1), (zK BK445.1), (zK BK455.1), (zK BK457.1), GW457.1, GE457.1, NB444_457.1, NB457_444.1, NB445_457.1, NB457_445.1, NB455_457.1, NB457_455.1, zB1⟩)
    ·refine zBs 10 31 #[.int .i64 0, .int .i64 0, .int .i64 0, .int .i64 0, .int .i64 0] ?_
     intro gb457 hg w89 hbox hb
     replace BK457 := zM hbox
     replace GW457 := zM (zW hg (below_size zB1))
     replace GE457 := zM (zW hg (below_size zB1))
     replace HB := zM (below_step zB1 hb)
     replace NB444_457 := zM ((zn BK444.1 hg : gb444 ≠ gb457))
     replace NB457_444 := zM ((zm BK444.1 hg : gb457 ≠ gb444))
     replace BK444 := zM (zb BK444.1 hb)
     replace NB445_457 := zM ((zn BK445.1 hg : gb445 ≠ gb457))
     replace NB457_445 := zM ((zm BK445.1 hg : gb457 ≠ gb445))
     replace BK445 := zM (zb BK445.1 hb)
     replace NB455_457 := zM ((zn BK455.1 hg : gb455 ≠ gb457))
     replace NB457_455 := zM ((zm BK455.1 hg : gb457 ≠ gb455))
     replace BK455 := zM (zb BK455.1 hb)
     refine hK.out _ _ zCs fun hHeld => ?_
     clear hK K
     refine zNo ?_
     refine zOn 6 (some 40) fun K hK => ?_
     refine zGs Try.func78 #[.agg #[.int .i64 t449, .int .i64 t450, .int .i64 t451, .int .i64 t452, .int .i64 t453], .slice A1_0 l1_0.length c1_0] ?_
     with_reducible refine (spec_Target.calls t449 t450 t451 t452 t453 _ _ l1_0 t456 _ ?side1 ?side2 A24.1).mono ?_
     (case side1 => exact zC (Kd.C_below HR1_0.1 HB.1))
     (case side2 => exact HC1_0.1)
     rintro e w90 ⟨rfl, hb⟩
     refine ⟨_, rfl, ?_⟩
     replace BK444 := zM (zb BK444.1 hb)
     replace BK445 := zM (zb BK445.1 hb)
     replace BK455 := zM (zb BK455.1 hb)
     replace BK457 := zM (zb BK457.1 hb)
     replace HB := zM (below_step zB1 hb)
     refine hK.out _ _ zCs fun hHeld => ?_
     clear hK K
     refine zNo ?_
     refine zPu 7 ?_
     exact norm_ zNr (hCont (gb457) _ ⟨hHeld, (zK BK444.1), (zK BK445.1), (zK BK455.1), (zK BK457.1), GW457.1, GE457.1, NB444_457.1, NB457_444.1, NB445_457.1, NB457_445.1, NB455_457.1, NB457_455.1, zB1⟩)
   rintro gb457 w91 ⟨hS_, h0_, h1_, h2_, h3_, h4_, h5_, h6_, h7_, h8_, h9_, h10_, h11_, h12_⟩
   replace BK444 := zM h0_
   replace BK445 := zM h1_
   replace BK455 := zM h2_
   replace BK457 := zM h3_
   replace GW457 := zM h4_
   replace GE457 := zM h5_
   replace NB444_457 := zM h6_
   replace NB457_444 := zM h7_
   replace NB445_457 := zM h8_
   replace NB457_445 := zM h9_
   replace NB455_457 := zM h10_
   replace NB457_455 := zM h11_
   replace HB := zM h12_
   have hHeld : w91.cell? ⟨gb444, 0, none⟩ = some (.slice A1_0 l1_0.length c1_0) ∧ w91.cell? ⟨gb444, 1, none⟩ = some (.int .i64 a1_1) ∧ w91.cell? ⟨gb444, 2, none⟩ = some (.int .i64 a1_2) ∧ w91.cell? ⟨gb455, 0, none⟩ = some (.int .i64 t449) ∧ w91.cell? ⟨gb455, 1, none⟩ = some (.int .i64 t450) ∧ w91.cell? ⟨gb455, 2, none⟩ = some (.int .i64 t451) ∧ w91.cell? ⟨gb455, 3, none⟩ = some (.int .i64 t452) ∧ w91.cell? ⟨gb455, 4, none⟩ = some (.int .i64 t453) := hS_
   refine zNp ?_
   refine zOn 9 none fun K hK => ?_
   obtain ⟨hs92, hfs92⟩ := zHs BK457.1 0
   have hns92_0 := NB444_457.1
   have hns92_1 := NB445_457.1
   have hns92_2 := NB455_457.1
   have hms92_0 := NB457_444.1
   have hms92_1 := NB457_445.1
   have hms92_2 := NB457_455.1
   obtain ⟨hs93, hfs93⟩ := zHs BK457.1 1
   have hns93_0 := NB444_457.1
   have hns93_1 := NB445_457.1
   have hns93_2 := NB455_457.1
   have hms93_0 := NB457_444.1
   have hms93_1 := NB457_445.1
   have hms93_2 := NB457_455.1
   obtain ⟨hs94, hfs94⟩ := zHs BK457.1 2
   have hns94_0 := NB444_457.1
   have hns94_1 := NB445_457.1
   have hns94_2 := NB455_457.1
   have hms94_0 := NB457_444.1
   have hms94_1 := NB457_445.1
   have hms94_2 := NB457_455.1
   obtain ⟨hs95, hfs95⟩ := zHs BK457.1 3
   have hns95_0 := NB444_457.1
   have hns95_1 := NB445_457.1
   have hns95_2 := NB455_457.1
   have hms95_0 := NB457_444.1
   have hms95_1 := NB457_445.1
   have hms95_2 := NB457_455.1
   obtain ⟨hs96, hfs96⟩ := zHs BK457.1 4
   have hns96_0 := NB444_457.1
   have hns96_1 := NB445_457.1
   have hns96_2 := NB455_457.1
   have hms96_0 := NB457_444.1
   have hms96_1 := NB457_445.1
   have hms96_2 := NB457_455.1
   refine skip_ (w1 := ?_) (by rfl) rfl ?_ ?_
   rotate_left
   ·go_simp
    rfl
   refine hK.out _ _ zCs fun hHeld => ?_
   clear hK K
   refine done_ (done_of HT_.1 (by kernel_rfl)) ?_
   have hnb97 := NB457_444.1
   have hnc97 := NB444_457.1
   have hnb98 := NB457_445.1
   have hnc98 := NB445_457.1
   have hnb99 := NB457_455.1
   have hnc99 := NB455_457.1
   have hcz100 := zc_5 (w := w91) BK457.1
   try go_wp2
   have n0_ : Aside0 ((((((w91.setCell ⟨gb457, 0, none⟩ (.int .i64 a2)).setCell ⟨gb457, 1, none⟩ (.int .i64 a1_1)).setCell ⟨gb457, 2, none⟩ (.int .i64 t456)).setCell ⟨gb457, 3, none⟩ (.int .i64 (-1))).setCell ⟨gb457, 4, none⟩ (.int .i64 (-1))).heap[gb444]? = some (.cells #[.slice A1_0 l1_0.length c1_0, .int .i64 a1_1, .int .i64 a1_2] 49 (0, 0))) := ⟨zPq⟩
   have n1_ : Aside0 ((((((w91.setCell ⟨gb457, 0, none⟩ (.int .i64 a2)).setCell ⟨gb457, 1, none⟩ (.int .i64 a1_1)).setCell ⟨gb457, 2, none⟩ (.int .i64 t456)).setCell ⟨gb457, 3, none⟩ (.int .i64 (-1))).setCell ⟨gb457, 4, none⟩ (.int .i64 (-1))).heap[gb445]? = some (.cells #[.int .i64 0, .int .i64 0, .int .i64 0, .int .i64 0, .int .i64 0] 31 (0, 0))) := ⟨zPq⟩
   have n2_ : Aside0 ((((((w91.setCell ⟨gb457, 0, none⟩ (.int .i64 a2)).setCell ⟨gb457, 1, none⟩ (.int .i64 a1_1)).setCell ⟨gb457, 2, none⟩ (.int .i64 t456)).setCell ⟨gb457, 3, none⟩ (.int .i64 (-1))).setCell ⟨gb457, 4, none⟩ (.int .i64 (-1))).heap[gb455]? = some (.cells #[.int .i64 t449, .int .i64 t450, .int .i64 t451, .int .i64 t452, .int .i64 t453] 71 (0, 0))) := ⟨zPq⟩
   have n3_ : Aside0 ((((((w91.setCell ⟨gb457, 0, none⟩ (.int .i64 a2)).setCell ⟨gb457, 1, none⟩ (.int .i64 a1_1)).setCell ⟨gb457, 2, none⟩ (.int .i64 t456)).setCell ⟨gb457, 3, none⟩ (.int .i64 (-1))).setCell ⟨gb457, 4, none⟩ (.int .i64 (-1))).heap[gb457]? = some (.cells #[.int .i64 a2, .int .i64 a1_1, .int .i64 t456, .int .i64 (-1), .int .i64 (-1)] 31 (0, 0))) := ⟨by exact zp5 (zK BK457.1)⟩
   have n4_ : Aside0 (Below w.heap.size w (((((w91.setCell ⟨gb457, 0, none⟩ (.int .i64 a2)).setCell ⟨gb457, 1, none⟩ (.int .i64 a1_1)).setCell ⟨gb457, 2, none⟩ (.int .i64 t456)).setCell ⟨gb457, 3, none⟩ (.int .i64 (-1))).setCell ⟨gb457, 4, none⟩ (.int .i64 (-1)))) := ⟨zB1⟩
   (try clear BK444)
   (try clear BK445)
   (try clear BK455)
   (try clear BK457)
   (try clear HB)
   generalize (((((w91.setCell ⟨gb457, 0, none⟩ (.int .i64 a2)).setCell ⟨gb457, 1, none⟩ (.int .i64 a1_1)).setCell ⟨gb457, 2, none⟩ (.int .i64 t456)).setCell ⟨gb457, 3, none⟩ (.int .i64 (-1))).setCell ⟨gb457, 4, none⟩ (.int .i64 (-1))) = w101 at n0_ n1_ n2_ n3_ n4_ ⊢
   have BK444 := n0_
   have BK445 := n1_
   have BK455 := n2_
   have BK457 := n3_
   have HB := n4_
   clear n0_ n1_ n2_ n3_ n4_
   replace BK444 := zM (blk_drew BK444.1)
   replace BK445 := zM (blk_drew BK445.1)
   replace BK455 := zM (blk_drew BK455.1)
   replace BK457 := zM (blk_drew BK457.1)
   replace HB := zM (below_drew1 HB.1)
   have p458 : 0 ≤ (t456 : Int) := zA
   have q458 : t456 < (l0.length : Int) := zA
   obtain ⟨ad458, e458, hx458_0⟩ := Kd.at_int HR0.1 t456 p458 q458
   have hw458_0 := hx458_0
   obtain rfl : ad448 = ad458 := (by injection e458)
   replace hx458_0 := (HB.1.cell (World.block_lt_of_cell? w _ hx458_0)).trans hx458_0
   replace p458 := eq_true p458
   replace q458 := eq_true q458
   refine start_ (n := 13) (S := fun w' => w'.cell? ⟨gb444, 0, none⟩ = some (.slice A1_0 l1_0.length c1_0) ∧ w'.cell? ⟨gb444, 1, none⟩ = some (.int .i64 a1_1) ∧ w'.cell? ⟨gb444, 2, none⟩ = some (.int .i64 a1_2) ∧ w'.cell? ⟨gb455, 0, none⟩ = some (.int .i64 t449) ∧ w'.cell? ⟨gb455, 1, none⟩ = some (.int .i64 t450) ∧ w'.cell? ⟨gb455, 2, none⟩ = some (.int .i64 t451) ∧ w'.cell? ⟨gb455, 3, none⟩ = some (.int .i64 t452) ∧ w'.cell? ⟨gb455, 4, none⟩ = some (.int .i64 t453) ∧ w'.cell? ⟨gb457, 0, none⟩ = some (.int .i64 a2) ∧ w'.cell? ⟨gb457, 1, none⟩ = some (.int .i64 a1_1) ∧ w'.cell? ⟨gb457, 2, none⟩ = some (.int .i64 t456) ∧ w'.cell? ⟨gb457, 3, none⟩ = some (.int .i64 (-1)) ∧ w'.cell? ⟨gb457, 4, none⟩ = some (.int .i64 (-1)) ∧ w'.cell? (ad448.add (t456).toNat) = some (.int .i64 (rd l0 t456))) (ds := [12]) zq14_13 (by kernel_rfl) rfl rfl ⟨(blk_cell BK444.1 0).trans rfl, (blk_cell BK444.1 1).trans rfl, (blk_cell BK444.1 2).trans rfl, (blk_cell BK455.1 0).trans rfl, (blk_cell BK455.1 1).trans rfl, (blk_cell BK455.1 2).trans rfl, (blk_cell BK455.1 3).trans rfl, (blk_cell BK455.1 4).trans rfl, (blk_cell BK457.1 0).trans rfl, (blk_cell BK457.1 1).trans rfl, (blk_cell BK457.1 2).trans rfl, (blk_cell BK457.1 3).trans rfl, (blk_cell BK457.1 4).trans rfl, ((HB.1.cell (World.block_lt_of_cell? w _ hw458_0)).trans hw458_0)⟩ (fun hHeld => ?_); refine with_tabW spec_EventOf.tab7 spec_EventOf.bits7 (fun HT_ HW_ => ?_)
   generalize w101.drew = w102 at BK444 BK445 BK455 BK457 HB hx458_0 hHeld ⊢
   refine zPu 2 ?_
   refine zPu 3 ?_
   refine zTk14 0 hHeld ?_
   refine zTk14 1 hHeld ?_
   refine zTk14 4 hHeld ?_
   refine zPu 5 ?_
   refine zTk14 6 hHeld ?_
   refine zOn 7 (some 54) fun K hK => ?_
   refine zGs Try.func79 #[.agg #[.slice A1_0 l1_0.length c1_0, .int .i64 a1_1, .int .i64 a1_2], .agg #[.int .i64 t449, .int .i64 t450, .int .i64 t451, .int .i64 t452, .int .i64 t453], .int .i64 (rd l0 t456)] ?_
   with_reducible refine (spec_Work.calls kj3 _ _ l1_0 a1_1 a1_2 t449 t450 t451 t452 t453 (rd l0 t456) t459 t462 t463 t464 _ ?side1 ?side2 A50.1).mono ?_
   (case side1 => exact zC (Kd.C_below HR1_0.1 HB.1))
   (case side2 => exact HC1_0.1)
   rintro e w103 ⟨v460, rfl, ho0, hb⟩
   refine ⟨_, rfl, ?_⟩
   have HO461 := zM (Kd.R_lower ho0 (below_size zB1))
   replace BK444 := zM (zb BK444.1 hb)
   replace BK445 := zM (zb BK445.1 hb)
   replace BK455 := zM (zb BK455.1 hb)
   replace BK457 := zM (zb BK457.1 hb)
   replace HB := zM (below_step zB1 hb)
   (try clear ho0)
   refine hK.out _ _ ⟨(blk_cell BK444.1 0).trans rfl, (blk_cell BK444.1 1).trans rfl, (blk_cell BK444.1 2).trans rfl, (blk_cell BK455.1 0).trans rfl, (blk_cell BK455.1 1).trans rfl, (blk_cell BK455.1 2).trans rfl, (blk_cell BK455.1 3).trans rfl, (blk_cell BK455.1 4).trans rfl, (blk_cell BK457.1 0).trans rfl, (blk_cell BK457.1 1).trans rfl, (blk_cell BK457.1 2).trans rfl, (blk_cell BK457.1 3).trans rfl, (blk_cell BK457.1 4).trans rfl, ((HB.1.cell (World.block_lt_of_cell? w _ hw458_0)).trans hw458_0)⟩ (fun hHeld => ?_)
   clear hK K
   refine zNo ?_
   refine zPu 8 ?_
   refine zPu 9 ?_
   refine zPu 10 ?_
   refine zPu 11 ?_
   refine last_ (i := 12) (N := none) zq14_26 rfl rfl (one_of HT_.1 (by kernel_rfl)) (by decide) (fun K hK => ?_)
   obtain ⟨hs104, hfs104⟩ := zHs BK457.1 4
   have hns104_0 := NB444_457.1
   have hns104_1 := NB445_457.1
   have hns104_2 := NB455_457.1
   have hms104_0 := NB457_444.1
   have hms104_1 := NB457_445.1
   have hms104_2 := NB457_455.1
   refine skip_ (w1 := ?_) (by rfl) rfl ?_ ?_
   rotate_left
   ·go_simp
    rfl
   refine hK.out _ _ ?_
   clear hK K
   refine done_ (done_of HT_.1 (by kernel_rfl)) ?_
   have hcz105 := zc_5 (w := w103) BK455.1
   have hcz106 := zc_5 (w := w103) BK457.1
   have p465 : 0 ≤ (t456 : Int) := zA
   have q465 : t456 < (l0.length : Int) := zA
   obtain ⟨ad465, e465, hx465_0⟩ := Kd.at_int HR0.1 t456 p465 q465
   obtain rfl : ad448 = ad465 := (by injection e465)
   have hn465_0 : ad448.block ≠ gb457 := Nat.ne_of_lt (Nat.lt_of_lt_of_le (by have := World.block_lt_of_cell? _ _ hx465_0; first | rwa [add_block] at this | exact this) GW457.1)
   replace hx465_0 := (HB.1.cell (World.block_lt_of_cell? w _ hx465_0)).trans hx465_0
   replace hx465_0 := (cell_far (p := ⟨gb457, 4, none⟩) (by first | (rw [add_block]; exact hn465_0) | (show (Addr.add _ _).block ≠ _; rw [add_block]; exact hn465_0) | exact hn465_0) (.int .i64 t464)).trans hx465_0
   clear hn465_0
   replace p465 := eq_true p465
   replace q465 := eq_true q465
   have hcz107 := zc_5 (w := w103) BK445.1
   try go_wp2
   refine bodyPost_ret (results_ct rfl _ _ gb445 31 #[.int .i64 a2, .int .i64 a1_1, .int .i64 t456, .int .i64 (rd l0 t456), .int .i64 t464] (0, 0) _ rfl zPq Try.underlying31 rfl (by kernel_rfl)) rfl ?_
   exact ⟨zE, zB1⟩

end Go.Proofs.Ytgbjengnkbomoaa.PFnRacesOfCounts
