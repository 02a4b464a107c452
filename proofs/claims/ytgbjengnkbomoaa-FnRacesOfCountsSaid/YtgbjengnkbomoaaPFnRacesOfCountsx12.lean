-- made by wip/tools/myprint.py out of the seat's translation
import Derived.Test.YtgbjengnkbomoaaPFnRacesOfCountsx0
import Derived.Test.YtgbjengnkbomoaaPFnRacesOfCountsx11
namespace Go.Proofs.Ytgbjengnkbomoaa.PFnRacesOfCounts
open Go.RowKit Go.Proofs.YtgbjengnkbomoaaW.PrintWords Go.Proofs.YtgbjengnkbomoaaW.PrintLast Go.Proofs.YtgbjengnkbomoaaW.PrintMore
attribute [local go_sem] max2_int min2_int max_two min_two max_three min_three max_four min_four   -- for this text's walks alone
set_option linter.unusedVariables false
set_option linter.unusedSimpArgs false
set_option maxHeartbeats 8000000
set_option maxRecDepth 100000

/-! ### spec_HartOk: function 76 -/
def spec_HartOk.f (k : Nat) (l0_0 : List Int) (a0_1 : Int) (a0_2 : Int) : Option (Bool) := (spec_l1Words.f k l0_0 4).bind fun t381 => (if t381 = true then ((spec_l1In.f a0_1 0 23).bind fun t382 => (if t382 = true then ((spec_l1In.f a0_2 0 2).bind fun t383 => (some t383)) else (some false))) else (some false))
theorem spec_HartOk.mono : ∀ a0 a1 a2 k, LeO (spec_HartOk.f k a0 a1 a2) (spec_HartOk.f (k + 1) a0 a1 a2) := by
 intro a0 a1 a2 k
 unfold spec_HartOk.f
 have mo0 := @spec_l1Words.mono
 exact zL
theorem spec_HartOk.calls (k : Nat) (A0_0 : Option Addr) (c0_0 : Nat) (l0_0 : List Int) (a0_1 : Int) (a0_2 : Int) (r : Bool) (w : World) (hr0_0 : Kd.C (Kd.int .i64) w A0_0 l0_0.length l0_0) (hc0_0 : l0_0.length ≤ c0_0) (h : spec_HartOk.f k l0_0 a0_1 a0_2 = some r) :
  Calls Try.prog 76 #[.agg #[.slice A0_0 l0_0.length c0_0, .int .i64 a0_1, .int .i64 a0_2]] w fun e w' => e = .returned (.bool r) ∧ Below w.heap.size w w' := by
 have hu49 := Try.underlying49
 have HR0_0 := zM hr0_0
 have HC0_0 := zM hc0_0
 clear hr0_0 hc0_0
 have HB := zM (Below.refl w.heap.size w)
 unfold spec_HartOk.f at h
 have H := h
 clear h
 replace H := zO H
 obtain ⟨t381, A2, H⟩ := H
 by_cases c3 : t381 = true
 rotate_left
 ·replace c3 := Bool.eq_false_iff.mpr c3
  subst c3
  rw [if_neg zF] at H
  obtain rfl := Option.some.inj H
  go_enter Try.func76, Try.ntmps76
  go_wp2_with (first | ((with_reducible refine zBx 1 49 #[.slice A0_0 l0_0.length c0_0, .int .i64 a0_1, .int .i64 a0_2] ?_); intro gb380 hg w11 hbox hb; have BK380 := zM hbox; have GW380 := zM (zW hg (below_size zB1)); have GE380 := zM (zW hg (below_size zB1)); replace HB := zM (below_step zB1 hb); clear hb hbox hg; have hcz12 := zc_3 (w := w11) BK380.1) | ((with_reducible refine zG Try.func75 5 #[.slice A0_0 l0_0.length c0_0, .int .i64 4] ?_); (with_reducible refine (spec_l1Words.calls k _ _ l0_0 4 false _ ?side1 ?side2 A2.1).mono ?_); (case side1 => exact zC (Kd.C_below HR0_0.1 HB.1)); (case side2 => exact HC0_0.1); rintro e w' ⟨rfl, ⟨nd, rfl⟩⟩; refine ⟨_, rfl, ?_⟩))
  go_ret
  exact ⟨zE, zB1⟩
 subst c3
 rw [if_pos rfl] at H
 replace H := zO H
 obtain ⟨t382, A4, H⟩ := H
 by_cases c5 : t382 = true
 rotate_left
 ·replace c5 := Bool.eq_false_iff.mpr c5
  subst c5
  rw [if_neg zF] at H
  obtain rfl := Option.some.inj H
  go_enter Try.func76, Try.ntmps76
  go_wp2_with (first | ((with_reducible refine zBx 1 49 #[.slice A0_0 l0_0.length c0_0, .int .i64 a0_1, .int .i64 a0_2] ?_); intro gb380 hg w9 hbox hb; have BK380 := zM hbox; have GW380 := zM (zW hg (below_size zB1)); have GE380 := zM (zW hg (below_size zB1)); replace HB := zM (below_step zB1 hb); clear hb hbox hg; have hcz10 := zc_3 (w := w9) BK380.1) | ((with_reducible refine zG Try.func75 5 #[.slice A0_0 l0_0.length c0_0, .int .i64 4] ?_); (with_reducible refine (spec_l1Words.calls k _ _ l0_0 4 true _ ?side1 ?side2 A2.1).mono ?_); (case side1 => exact zC (Kd.C_below HR0_0.1 HB.1)); (case side2 => exact HC0_0.1); rintro e w' ⟨rfl, ⟨nd, rfl⟩⟩; refine ⟨_, rfl, ?_⟩) | (go_at_call 44; (with_reducible refine (spec_l1In.calls a0_1 0 23 false _ A4.1).mono ?_); rintro e w' ⟨rfl, ⟨nd, rfl⟩⟩))
  go_ret
  exact ⟨zE, zB1⟩
 subst c5
 rw [if_pos rfl] at H
 replace H := zO H
 obtain ⟨t383, A6, H⟩ := H
 obtain rfl := Option.some.inj H
 go_enter Try.func76, Try.ntmps76
 go_wp2_with (first | ((with_reducible refine zBx 1 49 #[.slice A0_0 l0_0.length c0_0, .int .i64 a0_1, .int .i64 a0_2] ?_); intro gb380 hg w7 hbox hb; have BK380 := zM hbox; have GW380 := zM (zW hg (below_size zB1)); have GE380 := zM (zW hg (below_size zB1)); replace HB := zM (below_step zB1 hb); clear hb hbox hg; have hcz8 := zc_3 (w := w7) BK380.1) | ((with_reducible refine zG Try.func75 5 #[.slice A0_0 l0_0.length c0_0, .int .i64 4] ?_); (with_reducible refine (spec_l1Words.calls k _ _ l0_0 4 true _ ?side1 ?side2 A2.1).mono ?_); (case side1 => exact zC (Kd.C_below HR0_0.1 HB.1)); (case side2 => exact HC0_0.1); rintro e w' ⟨rfl, ⟨nd, rfl⟩⟩; refine ⟨_, rfl, ?_⟩) | (go_at_call 44; (with_reducible refine (spec_l1In.calls a0_1 0 23 true _ A4.1).mono ?_); rintro e w' ⟨rfl, ⟨nd, rfl⟩⟩) | (go_at_call 44; (with_reducible refine (spec_l1In.calls a0_2 0 2 t383 _ A6.1).mono ?_); rintro e w' ⟨rfl, ⟨nd, rfl⟩⟩))
 go_ret
 exact ⟨zE, zB1⟩

/-! ### spec_l8Has: function 95 -/
def spec_l8Has.f (a0 : Int) : Option (Int) := (spec_l1In.f a0 1 10).bind fun t384 => (if t384 = true then ((some (([0, 9, 7, 11, 11, 14, 15, 10, 8, 0, 7] : List Int) : List Int)).bind fun y385 => (if 0 ≤ a0 then (if a0 < (y385.length : Int) then (some (rd y385 a0)) else (none)) else (none))) else (some 0))
theorem spec_l8Has.calls (a0 : Int) (r : Int) (w : World) (h : spec_l8Has.f a0 = some r) :
  Calls Try.prog 95 #[.int .i64 a0] w fun e w' => e = .returned (.int .i64 r) ∧ Below w.heap.size w w' := by
 have HB := zM (Below.refl w.heap.size w)
 unfold spec_l8Has.f at h
 have H := h
 clear h
 replace H := zO H
 obtain ⟨t384, A2, H⟩ := H
 by_cases c3 : t384 = true
 rotate_left
 ·replace c3 := Bool.eq_false_iff.mpr c3
  subst c3
  rw [if_neg zF] at H
  obtain rfl := Option.some.inj H
  go_enter Try.func95, Try.ntmps95
  go_wp2_with (first | ((with_reducible refine zG Try.func44 4 #[.int .i64 a0, .int .i64 1, .int .i64 10] ?_); (with_reducible refine (spec_l1In.calls a0 1 10 false _ A2.1).mono ?_); rintro e w' ⟨rfl, ⟨nd, rfl⟩⟩; refine ⟨_, rfl, ?_⟩))
  go_ret
  exact ⟨zE, zB1⟩
 subst c3
 rw [if_pos rfl] at H
 replace H := zY H
 obtain ⟨y385, Ny385, H⟩ := H
 replace H := zIt H
 obtain ⟨c4b0, H⟩ := H
 replace H := zIt H
 obtain ⟨c5b0, H⟩ := H
 obtain rfl := Option.some.inj H
 go_enter Try.func95, Try.ntmps95
 go_wp2_with (first | ((with_reducible refine zG Try.func44 4 #[.int .i64 a0, .int .i64 1, .int .i64 10] ?_); (with_reducible refine (spec_l1In.calls a0 1 10 true _ A2.1).mono ?_); rintro e w' ⟨rfl, ⟨nd, rfl⟩⟩; refine ⟨_, rfl, ?_⟩) | ((with_reducible refine gate_dst (N := 6) rfl ?_); refine Kd.R_lit (Kd.int .i64) _ 3 ?hg (N := 6) ?hd (xs := ([0, 9, 7, 11, 11, 14, 15, 10, 8, 0, 7] : List Int)) (inner := [.int .i64 0, .int .i64 9, .int .i64 7, .int .i64 11, .int .i64 11, .int .i64 14, .int .i64 15, .int .i64 10, .int .i64 8, .int .i64 0, .int .i64 7]) (ok := fun _ => True) (okp := fun _ => True) ?hr ?hp (fun _ hk => hk) trivial (Below.refl _ _) (Nat.le_refl _) (by simp) ?_; (case hd => rfl); (case hg => rfl); (case hr => exact zHH); (case hp => exact (Reps.one (show Kd.M (Kd.int .i64) _ _ _ 0 [.int .i64 0] from rfl) (Reps.one (show Kd.M (Kd.int .i64) _ _ _ 9 [.int .i64 9] from rfl) (Reps.one (show Kd.M (Kd.int .i64) _ _ _ 7 [.int .i64 7] from rfl) (Reps.one (show Kd.M (Kd.int .i64) _ _ _ 11 [.int .i64 11] from rfl) (Reps.one (show Kd.M (Kd.int .i64) _ _ _ 11 [.int .i64 11] from rfl) (Reps.one (show Kd.M (Kd.int .i64) _ _ _ 14 [.int .i64 14] from rfl) (Reps.one (show Kd.M (Kd.int .i64) _ _ _ 15 [.int .i64 15] from rfl) (Reps.one (show Kd.M (Kd.int .i64) _ _ _ 10 [.int .i64 10] from rfl) (Reps.one (show Kd.M (Kd.int .i64) _ _ _ 8 [.int .i64 8] from rfl) (Reps.one (show Kd.M (Kd.int .i64) _ _ _ 0 [.int .i64 0] from rfl) (Reps.one (show Kd.M (Kd.int .i64) _ _ _ 7 [.int .i64 7] from rfl) (Reps.none _ _))))))))))))); intro v386 w6 ho7 hb hg_ hnew_; clear hg_ hnew_; (first | rw [← Ny385.1] at ho7 | (simp only [Int.reduceToNat] at ho7; rw [← Ny385.1] at ho7)); have HO387 := zM (Kd.R_lower ho7 (below_size zB1)); replace HB := zM (below_step zB1 hb); clear hb ho7; obtain ⟨Ao8, co8, eo8⟩ := Kd.R_slice HO387.1; subst eo8; have p388 : 0 ≤ (a0 : Int) := zA; have q388 : a0 < (y385.length : Int) := zA; obtain ⟨ad388, e388, hx388_0⟩ := Kd.at_int (Kd.R_reads' HO387.1).2.2 a0 p388 q388; cases e388; replace p388 := eq_true p388; replace q388 := eq_true q388))
 go_ret
 exact ⟨zE, zB1⟩

/-! ### spec_l8Field: function 96 -/
def spec_l8Field.f (a0 : Int) (a1 : Int) (a2 : Bool) : Option (Bool) := (spec_l1In.f a0 0 a1).bind fun t389 => (if t389 = true then (if a2 = true then (some true) else (some (a0 == 0))) else (some false))
theorem spec_l8Field.calls (a0 : Int) (a1 : Int) (a2 : Bool) (r : Bool) (w : World) (h : spec_l8Field.f a0 a1 a2 = some r) :
  Calls Try.prog 96 #[.int .i64 a0, .int .i64 a1, .bool a2] w fun e w' => e = .returned (.bool r) ∧ Drawn0 w w' := by
 unfold spec_l8Field.f at h
 have H := h
 clear h
 replace H := zO H
 obtain ⟨t389, A4, H⟩ := H
 by_cases c5 : t389 = true
 rotate_left
 ·replace c5 := Bool.eq_false_iff.mpr c5
  subst c5
  rw [if_neg zF] at H
  obtain rfl := Option.some.inj H
  go_enter Try.func96, Try.ntmps96
  go_wp2_with (first | ((with_reducible refine zG Try.func44 9 #[.int .i64 a0, .int .i64 0, .int .i64 a1] ?_); (with_reducible refine (spec_l1In.calls a0 0 a1 false _ A4.1).mono ?_); rintro e w' ⟨rfl, ⟨nd, rfl⟩⟩; refine ⟨_, rfl, ?_⟩))
  go_ret
  exact ⟨zJJ, zDD⟩
 subst c5
 rw [if_pos rfl] at H
 by_cases c6 : a2 = true
 ·subst c6
  rw [if_pos rfl] at H
  obtain rfl := Option.some.inj H
  go_enter Try.func96, Try.ntmps96
  go_wp2_with (first | ((with_reducible refine zG Try.func44 9 #[.int .i64 a0, .int .i64 0, .int .i64 a1] ?_); (with_reducible refine (spec_l1In.calls a0 0 a1 true _ A4.1).mono ?_); rintro e w' ⟨rfl, ⟨nd, rfl⟩⟩; refine ⟨_, rfl, ?_⟩))
  go_ret
  exact ⟨zJJ, zDD⟩
 replace c6 := Bool.eq_false_iff.mpr c6
 subst c6
 rw [if_neg zF] at H
 obtain rfl := Option.some.inj H
 go_enter Try.func96, Try.ntmps96
 go_wp2_with (first | ((with_reducible refine zG Try.func44 9 #[.int .i64 a0, .int .i64 0, .int .i64 a1] ?_); (with_reducible refine (spec_l1In.calls a0 0 a1 true _ A4.1).mono ?_); rintro e w' ⟨rfl, ⟨nd, rfl⟩⟩; refine ⟨_, rfl, ?_⟩))
 go_ret
 exact ⟨zJJ, zDD⟩

/-! ### spec_InsOk: function 88 -/
def spec_InsOk.f (a0_0 : Int) (a0_1 : Int) (a0_2 : Int) (a0_3 : Int) (a0_4 : Int) : Option (Bool) := (spec_l8Has.f a0_0).bind fun t391 => ((spec_l1In.f a0_0 1 10).bind fun t392 => (if t392 = true then ((spec_l8Field.f a0_1 3 ((Go.bits .and .i64 t391 1) != 0)).bind fun t393 => (if t393 = true then ((spec_l8Field.f a0_2 3 ((Go.bits .and .i64 t391 2) != 0)).bind fun t394 => (if t394 = true then ((spec_l8Field.f a0_3 3 ((Go.bits .and .i64 t391 4) != 0)).bind fun t395 => (if t395 = true then ((spec_l8Field.f a0_4 63 ((Go.bits .and .i64 t391 8) != 0)).bind fun t396 => (some t396)) else (some false))) else (some false))) else (some false))) else (some false)))
theorem spec_InsOk.calls (a0_0 : Int) (a0_1 : Int) (a0_2 : Int) (a0_3 : Int) (a0_4 : Int) (r : Bool) (w : World) (h : spec_InsOk.f a0_0 a0_1 a0_2 a0_3 a0_4 = some r) :
  Calls Try.prog 88 #[.agg #[.int .i64 a0_0, .int .i64 a0_1, .int .i64 a0_2, .int .i64 a0_3, .int .i64 a0_4]] w fun e w' => e = .returned (.bool r) ∧ Below w.heap.size w w' := by
 have hu71 := Try.underlying71
 have HB := zM (Below.refl w.heap.size w)
 unfold spec_InsOk.f at h
 have H := h
 clear h
 replace H := zO H
 obtain ⟨t391, A2, H⟩ := H
 replace H := zO H
 obtain ⟨t392, A3, H⟩ := H
 by_cases c4 : t392 = true
 rotate_left
 ·replace c4 := Bool.eq_false_iff.mpr c4
  subst c4
  rw [if_neg zF] at H
  obtain rfl := Option.some.inj H
  go_enter Try.func88, Try.ntmps88
  go_wp2_with (first | ((with_reducible refine zBx 1 71 #[.int .i64 a0_0, .int .i64 a0_1, .int .i64 a0_2, .int .i64 a0_3, .int .i64 a0_4] ?_); intro gb390 hg w28 hbox hb; have BK390 := zM hbox; have GW390 := zM (zW hg (below_size zB1)); have GE390 := zM (zW hg (below_size zB1)); replace HB := zM (below_step zB1 hb); clear hb hbox hg; have hcz29 := zc_5 (w := w28) BK390.1) | ((with_reducible refine zG Try.func95 6 #[.int .i64 a0_0] ?_); (with_reducible refine (spec_l8Has.calls a0_0 t391 _ A2.1).mono ?_); rintro e w30 ⟨rfl, hb⟩; refine ⟨_, rfl, ?_⟩; replace BK390 := zM (zb BK390.1 hb); replace HB := zM (below_step zB1 hb); clear hb; have hcz31 := zc_5 (w := w30) BK390.1) | ((with_reducible refine zG Try.func44 9 #[.int .i64 a0_0, .int .i64 1, .int .i64 10] ?_); (with_reducible refine (spec_l1In.calls a0_0 1 10 false _ A3.1).mono ?_); rintro e w' ⟨rfl, ⟨nd, rfl⟩⟩; refine ⟨_, rfl, ?_⟩))
  go_ret
  exact ⟨zE, zB1⟩
 subst c4
 rw [if_pos rfl] at H
 replace H := zO H
 obtain ⟨t393, A5, H⟩ := H
 by_cases c6 : t393 = true
 rotate_left
 ·replace c6 := Bool.eq_false_iff.mpr c6
  subst c6
  rw [if_neg zF] at H
  obtain rfl := Option.some.inj H
  go_enter Try.func88, Try.ntmps88
  go_wp2_with (first | ((with_reducible refine zBx 1 71 #[.int .i64 a0_0, .int .i64 a0_1, .int .i64 a0_2, .int .i64 a0_3, .int .i64 a0_4] ?_); intro gb390 hg w24 hbox hb; have BK390 := zM hbox; have GW390 := zM (zW hg (below_size zB1)); have GE390 := zM (zW hg (below_size zB1)); replace HB := zM (below_step zB1 hb); clear hb hbox hg; have hcz25 := zc_5 (w := w24) BK390.1) | ((with_reducible refine zG Try.func95 6 #[.int .i64 a0_0] ?_); (with_reducible refine (spec_l8Has.calls a0_0 t391 _ A2.1).mono ?_); rintro e w26 ⟨rfl, hb⟩; refine ⟨_, rfl, ?_⟩; replace BK390 := zM (zb BK390.1 hb); replace HB := zM (below_step zB1 hb); clear hb; have hcz27 := zc_5 (w := w26) BK390.1) | ((with_reducible refine zG Try.func44 9 #[.int .i64 a0_0, .int .i64 1, .int .i64 10] ?_); (with_reducible refine (spec_l1In.calls a0_0 1 10 true _ A3.1).mono ?_); rintro e w' ⟨rfl, ⟨nd, rfl⟩⟩; refine ⟨_, rfl, ?_⟩) | (go_at_call 96; (with_reducible refine (spec_l8Field.calls a0_1 3 ((Go.bits .and .i64 t391 1) != 0) false _ A5.1).mono ?_); rintro e w' ⟨rfl, ⟨nd, rfl⟩⟩))
  go_ret
  exact ⟨zE, zB1⟩
 subst c6
 rw [if_pos rfl] at H
 replace H := zO H
 obtain ⟨t394, A7, H⟩ := H
 by_cases c8 : t394 = true
 rotate_left
 ·replace c8 := Bool.eq_false_iff.mpr c8
  subst c8
  rw [if_neg zF] at H
  obtain rfl := Option.some.inj H
  go_enter Try.func88, Try.ntmps88
  go_wp2_with (first | ((with_reducible refine zBx 1 71 #[.int .i64 a0_0, .int .i64 a0_1, .int .i64 a0_2, .int .i64 a0_3, .int .i64 a0_4] ?_); intro gb390 hg w20 hbox hb; have BK390 := zM hbox; have GW390 := zM (zW hg (below_size zB1)); have GE390 := zM (zW hg (below_size zB1)); replace HB := zM (below_step zB1 hb); clear hb hbox hg; have hcz21 := zc_5 (w := w20) BK390.1) | ((with_reducible refine zG Try.func95 6 #[.int .i64 a0_0] ?_); (with_reducible refine (spec_l8Has.calls a0_0 t391 _ A2.1).mono ?_); rintro e w22 ⟨rfl, hb⟩; refine ⟨_, rfl, ?_⟩; replace BK390 := zM (zb BK390.1 hb); replace HB := zM (below_step zB1 hb); clear hb; have hcz23 := zc_5 (w := w22) BK390.1) | ((with_reducible refine zG Try.func44 9 #[.int .i64 a0_0, .int .i64 1, .int .i64 10] ?_); (with_reducible refine (spec_l1In.calls a0_0 1 10 true _ A3.1).mono ?_); rintro e w' ⟨rfl, ⟨nd, rfl⟩⟩; refine ⟨_, rfl, ?_⟩) | (go_at_call 96; (with_reducible refine (spec_l8Field.calls a0_1 3 ((Go.bits .and .i64 t391 1) != 0) true _ A5.1).mono ?_); rintro e w' ⟨rfl, ⟨nd, rfl⟩⟩) | (go_at_call 96; (with_reducible refine (spec_l8Field.calls a0_2 3 ((Go.bits .and .i64 t391 2) != 0) false _ A7.1).mono ?_); rintro e w' ⟨rfl, ⟨nd, rfl⟩⟩))
  go_ret
  exact ⟨zE, zB1⟩
 subst c8
 rw [if_pos rfl] at H
 replace H := zO H
 obtain ⟨t395, A9, H⟩ := H
 by_cases c10 : t395 = true
 rotate_left
 ·replace c10 := Bool.eq_false_iff.mpr c10
  subst c10
  rw [if_neg zF] at H
  obtain rfl := Option.some.inj H
  go_enter Try.func88, Try.ntmps88
  go_wp2_with (first | ((with_reducible refine zBx 1 71 #[.int .i64 a0_0, .int .i64 a0_1, .int .i64 a0_2, .int .i64 a0_3, .int .i64 a0_4] ?_); intro gb390 hg w16 hbox hb; have BK390 := zM hbox; have GW390 := zM (zW hg (below_size zB1)); have GE390 := zM (zW hg (below_size zB1)); replace HB := zM (below_step zB1 hb); clear hb hbox hg; have hcz17 := zc_5 (w := w16) BK390.1) | ((with_reducible refine zG Try.func95 6 #[.int .i64 a0_0] ?_); (with_reducible refine (spec_l8Has.calls a0_0 t391 _ A2.1).mono ?_); rintro e w18 ⟨rfl, hb⟩; refine ⟨_, rfl, ?_⟩; replace BK390 := zM (zb BK390.1 hb); replace HB := zM (below_step zB1 hb); clear hb; have hcz19 := zc_5 (w := w18) BK390.1) | ((with_reducible refine zG Try.func44 9 #[.int .i64 a0_0, .int .i64 1, .int .i64 10] ?_); (with_reducible refine (spec_l1In.calls a0_0 1 10 true _ A3.1).mono ?_); rintro e w' ⟨rfl, ⟨nd, rfl⟩⟩; refine ⟨_, rfl, ?_⟩) | (go_at_call 96; (with_reducible refine (spec_l8Field.calls a0_1 3 ((Go.bits .and .i64 t391 1) != 0) true _ A5.1).mono ?_); rintro e w' ⟨rfl, ⟨nd, rfl⟩⟩) | (go_at_call 96; (with_reducible refine (spec_l8Field.calls a0_2 3 ((Go.bits .and .i64 t391 2) != 0) true _ A7.1).mono ?_); rintro e w' ⟨rfl, ⟨nd, rfl⟩⟩) | (go_at_call 96; (with_reducible refine (spec_l8Field.calls a0_3 3 ((Go.bits .and .i64 t391 4) != 0) false _ A9.1).mono ?_); rintro e w' ⟨rfl, ⟨nd, rfl⟩⟩))
  go_ret
  exact ⟨zE, zB1⟩
 subst c10
 rw [if_pos rfl] at H
 replace H := zO H
 obtain ⟨t396, A11, H⟩ := H
 obtain rfl := Option.some.inj H
 go_enter Try.func88, Try.ntmps88
 go_wp2_with (first | ((with_reducible refine zBx 1 71 #[.int .i64 a0_0, .int .i64 a0_1, .int .i64 a0_2, .int .i64 a0_3, .int .i64 a0_4] ?_); intro gb390 hg w12 hbox hb; have BK390 := zM hbox; have GW390 := zM (zW hg (below_size zB1)); have GE390 := zM (zW hg (below_size zB1)); replace HB := zM (below_step zB1 hb); clear hb hbox hg; have hcz13 := zc_5 (w := w12) BK390.1) | ((with_reducible refine zG Try.func95 6 #[.int .i64 a0_0] ?_); (with_reducible refine (spec_l8Has.calls a0_0 t391 _ A2.1).mono ?_); rintro e w14 ⟨rfl, hb⟩; refine ⟨_, rfl, ?_⟩; replace BK390 := zM (zb BK390.1 hb); replace HB := zM (below_step zB1 hb); clear hb; have hcz15 := zc_5 (w := w14) BK390.1) | ((with_reducible refine zG Try.func44 9 #[.int .i64 a0_0, .int .i64 1, .int .i64 10] ?_); (with_reducible refine (spec_l1In.calls a0_0 1 10 true _ A3.1).mono ?_); rintro e w' ⟨rfl, ⟨nd, rfl⟩⟩; refine ⟨_, rfl, ?_⟩) | (go_at_call 96; (with_reducible refine (spec_l8Field.calls a0_1 3 ((Go.bits .and .i64 t391 1) != 0) true _ A5.1).mono ?_); rintro e w' ⟨rfl, ⟨nd, rfl⟩⟩) | (go_at_call 96; (with_reducible refine (spec_l8Field.calls a0_2 3 ((Go.bits .and .i64 t391 2) != 0) true _ A7.1).mono ?_); rintro e w' ⟨rfl, ⟨nd, rfl⟩⟩) | (go_at_call 96; (with_reducible refine (spec_l8Field.calls a0_3 3 ((Go.bits .and .i64 t391 4) != 0) true _ A9.1).mono ?_); rintro e w' ⟨rfl, ⟨nd, rfl⟩⟩) | (go_at_call 96; (with_reducible refine (spec_l8Field.calls a0_4 63 ((Go.bits .and .i64 t391 8) != 0) t396 _ A11.1).mono ?_); rintro e w' ⟨rfl, ⟨nd, rfl⟩⟩))
 go_ret
 exact ⟨zE, zB1⟩

/-! ### spec_Decode: function 77 -/
def spec_Decode.f (a0 : Int) : Option (Int × Int × Int × Int × Int × Bool) := (spec_l1In.f a0 0 65535).bind fun t398 => (if t398 = true then ((spec_InsOk.f (Int.tmod a0 16) (Int.tmod (wrap64 (Int.tdiv a0 16)) 4) (Int.tmod (wrap64 (Int.tdiv a0 64)) 4) (Int.tmod (wrap64 (Int.tdiv a0 256)) 4) (wrap64 (Int.tdiv a0 1024))).bind fun t400 => (if t400 = true then (some (Int.tmod a0 16, Int.tmod (wrap64 (Int.tdiv a0 16)) 4, Int.tmod (wrap64 (Int.tdiv a0 64)) 4, Int.tmod (wrap64 (Int.tdiv a0 256)) 4, wrap64 (Int.tdiv a0 1024), true)) else (some (0, 0, 0, 0, 0, false)))) else (some (0, 0, 0, 0, 0, false)))
theorem spec_Decode.calls (a0 : Int) (r1 : Int) (r2 : Int) (r3 : Int) (r4 : Int) (r5 : Int) (r6 : Bool) (w : World) (h : spec_Decode.f a0 = some (r1, r2, r3, r4, r5, r6)) :
  Calls Try.prog 77 #[.int .i64 a0] w fun e w' => e = .returned (.tuple #[.agg #[.int .i64 r1, .int .i64 r2, .int .i64 r3, .int .i64 r4, .int .i64 r5], .bool r6]) ∧ Below w.heap.size w w' := by
 have hu71 := Try.underlying71
 have HB := zM (Below.refl w.heap.size w)
 unfold spec_Decode.f at h
 have H := h
 clear h
 replace H := zO H
 obtain ⟨t398, A2, H⟩ := H
 by_cases c3 : t398 = true
 rotate_left
 ·replace c3 := Bool.eq_false_iff.mpr c3
  subst c3
  rw [if_neg zF] at H
  simp only [Option.some.injEq, Prod.mk.injEq] at H
  obtain ⟨rfl, rfl, rfl, rfl, rfl, rfl⟩ := H
  go_enter Try.func77, Try.ntmps77
  go_wp2_with (first | ((with_reducible refine zBx 2 71 #[.int .i64 0, .int .i64 0, .int .i64 0, .int .i64 0, .int .i64 0] ?_); intro gb397 hg w19 hbox hb; have BK397 := zM hbox; have GW397 := zM (zW hg (below_size zB1)); have GE397 := zM (zW hg (below_size zB1)); replace HB := zM (below_step zB1 hb); clear hb hbox hg) | ((with_reducible refine zG Try.func44 6 #[.int .i64 a0, .int .i64 0, .int .i64 65535] ?_); (with_reducible refine (spec_l1In.calls a0 0 65535 false _ A2.1).mono ?_); rintro e w' ⟨rfl, ⟨nd, rfl⟩⟩; refine ⟨_, rfl, ?_⟩; (try (rw [drewN_self w19]; generalize hq_ : World.drewN w19 _ = w19; have n0_ : Aside0 (w19.heap[gb397]? = some (.cells #[.int .i64 0, .int .i64 0, .int .i64 0, .int .i64 0, .int .i64 0] 71 (0, 0))) := ⟨by rw [← hq_]; exact (zK BK397.1)⟩; have n1_ : Aside0 (Below w.heap.size w w19) := ⟨by rw [← hq_]; exact zB1⟩; clear BK397 HB hq_; have BK397 := n0_; have HB := n1_; clear n0_ n1_)); have hcz20 := zc_5 (w := w19) BK397.1))
  refine bodyPost_ret (results_ct rfl _ _ gb397 71 #[.int .i64 0, .int .i64 0, .int .i64 0, .int .i64 0, .int .i64 0] (0, 0) _ rfl (by exact zp5 (zK BK397.1)) Try.underlying71 rfl (by kernel_rfl)) rfl ?_
  exact ⟨zE, zB1⟩
 subst c3
 rw [if_pos rfl] at H
 replace H := zO H
 obtain ⟨t400, A4, H⟩ := H
 by_cases c5 : t400 = true
 rotate_left
 ·replace c5 := Bool.eq_false_iff.mpr c5
  subst c5
  rw [if_neg zF] at H
  simp only [Option.some.injEq, Prod.mk.injEq] at H
  obtain ⟨rfl, rfl, rfl, rfl, rfl, rfl⟩ := H
  go_enter Try.func77, Try.ntmps77
  go_wp2_with (first | ((with_reducible refine zBx 2 71 #[.int .i64 0, .int .i64 0, .int .i64 0, .int .i64 0, .int .i64 0] ?_); intro gb397 hg w13 hbox hb; have BK397 := zM hbox; have GW397 := zM (zW hg (below_size zB1)); have GE397 := zM (zW hg (below_size zB1)); replace HB := zM (below_step zB1 hb); clear hb hbox hg) | ((with_reducible refine zG Try.func44 6 #[.int .i64 a0, .int .i64 0, .int .i64 65535] ?_); (with_reducible refine (spec_l1In.calls a0 0 65535 true _ A2.1).mono ?_); rintro e w' ⟨rfl, ⟨nd, rfl⟩⟩; refine ⟨_, rfl, ?_⟩; (try (rw [drewN_self w13]; generalize hq_ : World.drewN w13 _ = w13; have n0_ : Aside0 (w13.heap[gb397]? = some (.cells #[.int .i64 0, .int .i64 0, .int .i64 0, .int .i64 0, .int .i64 0] 71 (0, 0))) := ⟨by rw [← hq_]; exact (zK BK397.1)⟩; have n1_ : Aside0 (Below w.heap.size w w13) := ⟨by rw [← hq_]; exact zB1⟩; clear BK397 HB hq_; have BK397 := n0_; have HB := n1_; clear n0_ n1_))) | ((with_reducible refine zBx 4 71 #[.int .i64 0, .int .i64 0, .int .i64 0, .int .i64 0, .int .i64 0] ?_); intro gb399 hg w14 hbox hb; have BK399 := zM hbox; have GW399 := zM (zW hg (below_size zB1)); have GE399 := zM (zW hg (below_size zB1)); replace HB := zM (below_step zB1 hb); have NB397_399 := zM ((zn BK397.1 hg : gb397 ≠ gb399)); have NB399_397 := zM ((zm BK397.1 hg : gb399 ≠ gb397)); replace BK397 := zM (zb BK397.1 hb); clear hb hbox hg; have hnb15 := NB399_397.1; have hnc15 := NB397_399.1; have hcz16 := zc_5 (w := w14) BK399.1) | ((with_reducible refine zG Try.func88 24 #[.agg #[.int .i64 (Int.tmod a0 16), .int .i64 (Int.tmod (wrap64 (Int.tdiv a0 16)) 4), .int .i64 (Int.tmod (wrap64 (Int.tdiv a0 64)) 4), .int .i64 (Int.tmod (wrap64 (Int.tdiv a0 256)) 4), .int .i64 (wrap64 (Int.tdiv a0 1024))]] ?_); (with_reducible refine (spec_InsOk.calls (Int.tmod a0 16) (Int.tmod (wrap64 (Int.tdiv a0 16)) 4) (Int.tmod (wrap64 (Int.tdiv a0 64)) 4) (Int.tmod (wrap64 (Int.tdiv a0 256)) 4) (wrap64 (Int.tdiv a0 1024)) false _ A4.1).mono ?_); rintro e w17 ⟨rfl, hb⟩; refine ⟨_, rfl, ?_⟩; replace BK397 := zM (zf BK397.1 hb); replace BK399 := zM (blk_below (g := gb399) (o := .cells #[.int .i64 (Int.tmod a0 16), .int .i64 (Int.tmod (wrap64 (Int.tdiv a0 16)) 4), .int .i64 (Int.tmod (wrap64 (Int.tdiv a0 64)) 4), .int .i64 (Int.tmod (wrap64 (Int.tdiv a0 256)) 4), .int .i64 (wrap64 (Int.tdiv a0 1024))] 71 (0, 0)) (by exact zp5 (zK BK399.1)) hb); replace HB := zM (below_step zB1 hb); clear hb; have hcz18 := zc_5 (w := w17) BK397.1))
  refine bodyPost_ret (results_ct rfl _ _ gb397 71 #[.int .i64 0, .int .i64 0, .int .i64 0, .int .i64 0, .int .i64 0] (0, 0) _ rfl (by exact zp5 (zK BK397.1)) Try.underlying71 rfl (by kernel_rfl)) rfl ?_
  exact ⟨zE, zB1⟩
 subst c5
 rw [if_pos rfl] at H
 simp only [Option.some.injEq, Prod.mk.injEq] at H
 obtain ⟨rfl, rfl, rfl, rfl, rfl, rfl⟩ := H
 go_enter Try.func77, Try.ntmps77
 go_wp2_with (first | ((with_reducible refine zBx 2 71 #[.int .i64 0, .int .i64 0, .int .i64 0, .int .i64 0, .int .i64 0] ?_); intro gb397 hg w6 hbox hb; have BK397 := zM hbox; have GW397 := zM (zW hg (below_size zB1)); have GE397 := zM (zW hg (below_size zB1)); replace HB := zM (below_step zB1 hb); clear hb hbox hg) | ((with_reducible refine zG Try.func44 6 #[.int .i64 a0, .int .i64 0, .int .i64 65535] ?_); (with_reducible refine (spec_l1In.calls a0 0 65535 true _ A2.1).mono ?_); rintro e w' ⟨rfl, ⟨nd, rfl⟩⟩; refine ⟨_, rfl, ?_⟩; (try (rw [drewN_self w6]; generalize hq_ : World.drewN w6 _ = w6; have n0_ : Aside0 (w6.heap[gb397]? = some (.cells #[.int .i64 0, .int .i64 0, .int .i64 0, .int .i64 0, .int .i64 0] 71 (0, 0))) := ⟨by rw [← hq_]; exact (zK BK397.1)⟩; have n1_ : Aside0 (Below w.heap.size w w6) := ⟨by rw [← hq_]; exact zB1⟩; clear BK397 HB hq_; have BK397 := n0_; have HB := n1_; clear n0_ n1_))) | ((with_reducible refine zBx 4 71 #[.int .i64 0, .int .i64 0, .int .i64 0, .int .i64 0, .int .i64 0] ?_); intro gb399 hg w7 hbox hb; have BK399 := zM hbox; have GW399 := zM (zW hg (below_size zB1)); have GE399 := zM (zW hg (below_size zB1)); replace HB := zM (below_step zB1 hb); have NB397_399 := zM ((zn BK397.1 hg : gb397 ≠ gb399)); have NB399_397 := zM ((zm BK397.1 hg : gb399 ≠ gb397)); replace BK397 := zM (zb BK397.1 hb); clear hb hbox hg; have hnb8 := NB399_397.1; have hnc8 := NB397_399.1; have hcz9 := zc_5 (w := w7) BK399.1) | ((with_reducible refine zG Try.func88 24 #[.agg #[.int .i64 (Int.tmod a0 16), .int .i64 (Int.tmod (wrap64 (Int.tdiv a0 16)) 4), .int .i64 (Int.tmod (wrap64 (Int.tdiv a0 64)) 4), .int .i64 (Int.tmod (wrap64 (Int.tdiv a0 256)) 4), .int .i64 (wrap64 (Int.tdiv a0 1024))]] ?_); (with_reducible refine (spec_InsOk.calls (Int.tmod a0 16) (Int.tmod (wrap64 (Int.tdiv a0 16)) 4) (Int.tmod (wrap64 (Int.tdiv a0 64)) 4) (Int.tmod (wrap64 (Int.tdiv a0 256)) 4) (wrap64 (Int.tdiv a0 1024)) true _ A4.1).mono ?_); rintro e w10 ⟨rfl, hb⟩; refine ⟨_, rfl, ?_⟩; replace BK397 := zM (zf BK397.1 hb); replace BK399 := zM (blk_below (g := gb399) (o := .cells #[.int .i64 (Int.tmod a0 16), .int .i64 (Int.tmod (wrap64 (Int.tdiv a0 16)) 4), .int .i64 (Int.tmod (wrap64 (Int.tdiv a0 64)) 4), .int .i64 (Int.tmod (wrap64 (Int.tdiv a0 256)) 4), .int .i64 (wrap64 (Int.tdiv a0 1024))] 71 (0, 0)) (by exact zp5 (zK BK399.1)) hb); replace HB := zM (below_step zB1 hb); clear hb; have hcz11 := zc_5 (w := w10) BK399.1; have hcz12 := zc_5 (w := w10) BK397.1))
 refine bodyPost_ret (results_ct rfl _ _ gb397 71 #[.int .i64 (Int.tmod a0 16), .int .i64 (Int.tmod (wrap64 (Int.tdiv a0 16)) 4), .int .i64 (Int.tmod (wrap64 (Int.tdiv a0 64)) 4), .int .i64 (Int.tmod (wrap64 (Int.tdiv a0 256)) 4), .int .i64 (wrap64 (Int.tdiv a0 1024))] (0, 0) _ rfl (by exact zp5 (zK BK397.1)) Try.underlying71 rfl (by kernel_rfl)) rfl ?_
 exact ⟨zE, zB1⟩

/-! ### spec_l9Address: function 89 -/
def spec_l9Address.f (a0 : Int) : Option (Int) := if (Int.tmod a0 24) < 0 then (some (wrap64 ((Int.tmod a0 24) + 24))) else (some (Int.tmod a0 24))
theorem spec_l9Address.calls (a0 : Int) (r : Int) (w : World) (h : spec_l9Address.f a0 = some r) :
  Calls Try.prog 89 #[.int .i64 a0] w fun e w' => e = .returned (.int .i64 r) ∧ Drawn0 w w' := by
 unfold spec_l9Address.f at h
 have H := h
 clear h
 by_cases c2 : (Int.tmod a0 24) < 0
 ·rw [if_pos c2] at H
  have c2b0 := decide_eq_true c2
  clear c2
  obtain rfl := Option.some.inj H
  go_enter Try.func89, Try.ntmps89
  go_wp2
  go_ret
  exact ⟨zJJ, zDD⟩
 rw [if_neg c2] at H
 have c2b0 := decide_eq_false c2
 clear c2
 obtain rfl := Option.some.inj H
 go_enter Try.func89, Try.ntmps89
 go_wp2
 go_ret
 exact ⟨zJJ, zDD⟩

/-! ### spec_Target: function 78 -/
def spec_Target.f (a0_0 : Int) (a0_1 : Int) (a0_2 : Int) (a0_3 : Int) (a0_4 : Int) (l1 : List Int) : Option (Int) := (spec_InsOk.f a0_0 a0_1 a0_2 a0_3 a0_4).bind fun t402 => (if t402 = true then (if (l1.length : Int) = 4 then (if a0_0 = 4 then (if 0 ≤ a0_2 then (if a0_2 < (l1.length : Int) then ((spec_l9Address.f (wrap64 ((rd l1 a0_2) + a0_4))).bind fun t404 => (some t404)) else (none)) else (none)) else (if a0_0 = 5 then (if 0 ≤ a0_2 then (if a0_2 < (l1.length : Int) then ((spec_l9Address.f (wrap64 ((rd l1 a0_2) + a0_4))).bind fun t406 => (some t406)) else (none)) else (none)) else (if a0_0 = 6 then (if 0 ≤ a0_2 then (if a0_2 < (l1.length : Int) then ((spec_l9Address.f (wrap64 ((rd l1 a0_2) + a0_4))).bind fun t408 => (some t408)) else (none)) else (none)) else (some (-1))))) else (some (-1))) else (some (-1)))
theorem spec_Target.calls (a0_0 : Int) (a0_1 : Int) (a0_2 : Int) (a0_3 : Int) (a0_4 : Int) (A1 : Option Addr) (c1 : Nat) (l1 : List Int) (r : Int) (w : World) (hr1 : Kd.C (Kd.int .i64) w A1 l1.length l1) (hc1 : l1.length ≤ c1) (h : spec_Target.f a0_0 a0_1 a0_2 a0_3 a0_4 l1 = some r) :
  Calls Try.prog 78 #[.agg #[.int .i64 a0_0, .int .i64 a0_1, .int .i64 a0_2, .int .i64 a0_3, .int .i64 a0_4], .slice A1 l1.length c1] w fun e w' => e = .returned (.int .i64 r) ∧ Below w.heap.size w w' := by
 have hu71 := Try.underlying71
 have HR1 := zM hr1
 have HC1 := zM hc1
 clear hr1 hc1
 have HB := zM (Below.refl w.heap.size w)
 unfold spec_Target.f at h
 have H := h
 clear h
 replace H := zO H
 obtain ⟨t402, A3, H⟩ := H
 by_cases c4 : t402 = true
 rotate_left
 ·replace c4 := Bool.eq_false_iff.mpr c4
  subst c4
  rw [if_neg zF] at H
  obtain rfl := Option.some.inj H
  go_enter Try.func78, Try.ntmps78
  go_wp2_with (first | ((with_reducible refine gate_dst (N := 2) rfl ?_); (try (refine gate_guard (by rfl) ?_; dsimp only)); (with_reducible refine zBx 2 71 #[.int .i64 a0_0, .int .i64 a0_1, .int .i64 a0_2, .int .i64 a0_3, .int .i64 a0_4] ?_); intro gb401 hg w37 hbox hb; have BK401 := zM hbox; have GW401 := zM (zW hg (below_size zB1)); have GE401 := zM (zW hg (below_size zB1)); replace HB := zM (below_step zB1 hb); clear hb hbox hg; have hcz38 := zc_5 (w := w37) BK401.1) | (go_at_call 88; (with_reducible refine (spec_InsOk.calls a0_0 a0_1 a0_2 a0_3 a0_4 false _ A3.1).mono ?_); rintro e w39 ⟨rfl, hb⟩; replace BK401 := zM (zb BK401.1 hb); replace HB := zM (below_step zB1 hb); clear hb))
  repeat (go_quiet (first | ((with_reducible refine gate_dst (N := 2) rfl ?_); (try (refine gate_guard (by rfl) ?_; dsimp only)); (with_reducible refine zBx 2 71 #[.int .i64 a0_0, .int .i64 a0_1, .int .i64 a0_2, .int .i64 a0_3, .int .i64 a0_4] ?_); intro gb401 hg w37 hbox hb; have BK401 := zM hbox; have GW401 := zM (zW hg (below_size zB1)); have GE401 := zM (zW hg (below_size zB1)); replace HB := zM (below_step zB1 hb); clear hb hbox hg; have hcz38 := zc_5 (w := w37) BK401.1) | (go_at_call 88; (with_reducible refine (spec_InsOk.calls a0_0 a0_1 a0_2 a0_3 a0_4 false _ A3.1).mono ?_); rintro e w39 ⟨rfl, hb⟩; replace BK401 := zM (zb BK401.1 hb); replace HB := zM (below_step zB1 hb); clear hb)); try go_wp2_with (first | ((with_reducible refine gate_dst (N := 2) rfl ?_); (try (refine gate_guard (by rfl) ?_; dsimp only)); (with_reducible refine zBx 2 71 #[.int .i64 a0_0, .int .i64 a0_1, .int .i64 a0_2, .int .i64 a0_3, .int .i64 a0_4] ?_); intro gb401 hg w37 hbox hb; have BK401 := zM hbox; have GW401 := zM (zW hg (below_size zB1)); have GE401 := zM (zW hg (below_size zB1)); replace HB := zM (below_step zB1 hb); clear hb hbox hg; have hcz38 := zc_5 (w := w37) BK401.1) | (go_at_call 88; (with_reducible refine (spec_InsOk.calls a0_0 a0_1 a0_2 a0_3 a0_4 false _ A3.1).mono ?_); rintro e w39 ⟨rfl, hb⟩; replace BK401 := zM (zb BK401.1 hb); replace HB := zM (below_step zB1 hb); clear hb)))
  go_ret
  exact ⟨zE, zB1⟩
 subst c4
 rw [if_pos rfl] at H
 by_cases c5 : (l1.length : Int) = 4
 rotate_left
 ·rw [if_neg c5] at H
  have c5b0 : ((l1.length : Int) == 4) = false := beq_eq_false_iff_ne.mpr c5
  have c5b1 : ((l1.length : Int) != 4) = true := bne_iff_ne.mpr c5
  obtain rfl := Option.some.inj H
  go_enter Try.func78, Try.ntmps78
  go_wp2_with (first | ((with_reducible refine gate_dst (N := 2) rfl ?_); (try (refine gate_guard (by rfl) ?_; dsimp only)); (with_reducible refine zBx 2 71 #[.int .i64 a0_0, .int .i64 a0_1, .int .i64 a0_2, .int .i64 a0_3, .int .i64 a0_4] ?_); intro gb401 hg w34 hbox hb; have BK401 := zM hbox; have GW401 := zM (zW hg (below_size zB1)); have GE401 := zM (zW hg (below_size zB1)); replace HB := zM (below_step zB1 hb); clear hb hbox hg; have hcz35 := zc_5 (w := w34) BK401.1) | (go_at_call 88; (with_reducible refine (spec_InsOk.calls a0_0 a0_1 a0_2 a0_3 a0_4 true _ A3.1).mono ?_); rintro e w36 ⟨rfl, hb⟩; replace BK401 := zM (zb BK401.1 hb); replace HB := zM (below_step zB1 hb); clear hb))
  repeat (go_quiet (first | ((with_reducible refine gate_dst (N := 2) rfl ?_); (try (refine gate_guard (by rfl) ?_; dsimp only)); (with_reducible refine zBx 2 71 #[.int .i64 a0_0, .int .i64 a0_1, .int .i64 a0_2, .int .i64 a0_3, .int .i64 a0_4] ?_); intro gb401 hg w34 hbox hb; have BK401 := zM hbox; have GW401 := zM (zW hg (below_size zB1)); have GE401 := zM (zW hg (below_size zB1)); replace HB := zM (below_step zB1 hb); clear hb hbox hg; have hcz35 := zc_5 (w := w34) BK401.1) | (go_at_call 88; (with_reducible refine (spec_InsOk.calls a0_0 a0_1 a0_2 a0_3 a0_4 true _ A3.1).mono ?_); rintro e w36 ⟨rfl, hb⟩; replace BK401 := zM (zb BK401.1 hb); replace HB := zM (below_step zB1 hb); clear hb)); try go_wp2_with (first | ((with_reducible refine gate_dst (N := 2) rfl ?_); (try (refine gate_guard (by rfl) ?_; dsimp only)); (with_reducible refine zBx 2 71 #[.int .i64 a0_0, .int .i64 a0_1, .int .i64 a0_2, .int .i64 a0_3, .int .i64 a0_4] ?_); intro gb401 hg w34 hbox hb; have BK401 := zM hbox; have GW401 := zM (zW hg (below_size zB1)); have GE401 := zM (zW hg (below_size zB1)); replace HB := zM (below_step zB1 hb); clear hb hbox hg; have hcz35 := zc_5 (w := w34) BK401.1) | (go_at_call 88; (with_reducible refine (spec_InsOk.calls a0_0 a0_1 a0_2 a0_3 a0_4 true _ A3.1).mono ?_); rintro e w36 ⟨rfl, hb⟩; replace BK401 := zM (zb BK401.1 hb); replace HB := zM (below_step zB1 hb); clear hb)))
  go_ret
  exact ⟨zE, zB1⟩
 rw [if_pos c5] at H
 have c5b0 : ((l1.length : Int) == 4) = true := beq_iff_eq.mpr c5
 have c5b1 : ((l1.length : Int) != 4) = false := bne_eq_false_iff_eq.mpr c5
 clear c5
 by_cases c6 : a0_0 = 4
 ·rw [if_pos c6] at H
  have c6b0 : (a0_0 == 4) = true := beq_iff_eq.mpr c6
  have c6b1 : (a0_0 != 4) = false := bne_eq_false_iff_eq.mpr c6
  clear c6
  replace H := zIt H
  obtain ⟨c7b0, H⟩ := H
  replace H := zIt H
  obtain ⟨c8b0, H⟩ := H
  replace H := zO H
  obtain ⟨t404, A9, H⟩ := H
  obtain rfl := Option.some.inj H
  go_enter Try.func78, Try.ntmps78
  go_wp2_with (first | ((with_reducible refine gate_dst (N := 2) rfl ?_); (try (refine gate_guard (by rfl) ?_; dsimp only)); (with_reducible refine zBx 2 71 #[.int .i64 a0_0, .int .i64 a0_1, .int .i64 a0_2, .int .i64 a0_3, .int .i64 a0_4] ?_); intro gb401 hg w10 hbox hb; have BK401 := zM hbox; have GW401 := zM (zW hg (below_size zB1)); have GE401 := zM (zW hg (below_size zB1)); replace HB := zM (below_step zB1 hb); clear hb hbox hg; have hcz11 := zc_5 (w := w10) BK401.1) | (go_at_call 88; (with_reducible refine (spec_InsOk.calls a0_0 a0_1 a0_2 a0_3 a0_4 true _ A3.1).mono ?_); rintro e w12 ⟨rfl, hb⟩; replace BK401 := zM (zb BK401.1 hb); replace HB := zM (below_step zB1 hb); clear hb; have hcz13 := zc_5 (w := w12) BK401.1; have p403 : 0 ≤ (a0_2 : Int) := zA; have q403 : a0_2 < (l1.length : Int) := zA; obtain ⟨ad403, e403, hx403_0⟩ := Kd.at_int HR1.1 a0_2 p403 q403; cases e403; replace hx403_0 := (HB.1.cell (World.block_lt_of_cell? w _ hx403_0)).trans hx403_0; replace p403 := eq_true p403; replace q403 := eq_true q403) | (go_at_call 89; (with_reducible refine (spec_l9Address.calls (wrap64 ((rd l1 a0_2) + a0_4)) t404 _ A9.1).mono ?_); rintro e w' ⟨rfl, ⟨nd, rfl⟩⟩; (try first | exact ⟨rfl, _, World.drewN_drewN _ _ _⟩ | exact ⟨rfl, _, Eq.trans (World.drewN_drewN _ _ _) (congrArg (World.drewN _) (Nat.add_assoc _ _ _))⟩)))
  repeat (go_quiet (first | ((with_reducible refine gate_dst (N := 2) rfl ?_); (try (refine gate_guard (by rfl) ?_; dsimp only)); (with_reducible refine zBx 2 71 #[.int .i64 a0_0, .int .i64 a0_1, .int .i64 a0_2, .int .i64 a0_3, .int .i64 a0_4] ?_); intro gb401 hg w10 hbox hb; have BK401 := zM hbox; have GW401 := zM (zW hg (below_size zB1)); have GE401 := zM (zW hg (below_size zB1)); replace HB := zM (below_step zB1 hb); clear hb hbox hg; have hcz11 := zc_5 (w := w10) BK401.1) | (go_at_call 88; (with_reducible refine (spec_InsOk.calls a0_0 a0_1 a0_2 a0_3 a0_4 true _ A3.1).mono ?_); rintro e w12 ⟨rfl, hb⟩; replace BK401 := zM (zb BK401.1 hb); replace HB := zM (below_step zB1 hb); clear hb; have hcz13 := zc_5 (w := w12) BK401.1; have p403 : 0 ≤ (a0_2 : Int) := zA; have q403 : a0_2 < (l1.length : Int) := zA; obtain ⟨ad403, e403, hx403_0⟩ := Kd.at_int HR1.1 a0_2 p403 q403; cases e403; replace hx403_0 := (HB.1.cell (World.block_lt_of_cell? w _ hx403_0)).trans hx403_0; replace p403 := eq_true p403; replace q403 := eq_true q403) | (go_at_call 89; (with_reducible refine (spec_l9Address.calls (wrap64 ((rd l1 a0_2) + a0_4)) t404 _ A9.1).mono ?_); rintro e w' ⟨rfl, ⟨nd, rfl⟩⟩; (try first | exact ⟨rfl, _, World.drewN_drewN _ _ _⟩ | exact ⟨rfl, _, Eq.trans (World.drewN_drewN _ _ _) (congrArg (World.drewN _) (Nat.add_assoc _ _ _))⟩))); try go_wp2_with (first | ((with_reducible refine gate_dst (N := 2) rfl ?_); (try (refine gate_guard (by rfl) ?_; dsimp only)); (with_reducible refine zBx 2 71 #[.int .i64 a0_0, .int .i64 a0_1, .int .i64 a0_2, .int .i64 a0_3, .int .i64 a0_4] ?_); intro gb401 hg w10 hbox hb; have BK401 := zM hbox; have GW401 := zM (zW hg (below_size zB1)); have GE401 := zM (zW hg (below_size zB1)); replace HB := zM (below_step zB1 hb); clear hb hbox hg; have hcz11 := zc_5 (w := w10) BK401.1) | (go_at_call 88; (with_reducible refine (spec_InsOk.calls a0_0 a0_1 a0_2 a0_3 a0_4 true _ A3.1).mono ?_); rintro e w12 ⟨rfl, hb⟩; replace BK401 := zM (zb BK401.1 hb); replace HB := zM (below_step zB1 hb); clear hb; have hcz13 := zc_5 (w := w12) BK401.1; have p403 : 0 ≤ (a0_2 : Int) := zA; have q403 : a0_2 < (l1.length : Int) := zA; obtain ⟨ad403, e403, hx403_0⟩ := Kd.at_int HR1.1 a0_2 p403 q403; cases e403; replace hx403_0 := (HB.1.cell (World.block_lt_of_cell? w _ hx403_0)).trans hx403_0; replace p403 := eq_true p403; replace q403 := eq_true q403) | (go_at_call 89; (with_reducible refine (spec_l9Address.calls (wrap64 ((rd l1 a0_2) + a0_4)) t404 _ A9.1).mono ?_); rintro e w' ⟨rfl, ⟨nd, rfl⟩⟩; (try first | exact ⟨rfl, _, World.drewN_drewN _ _ _⟩ | exact ⟨rfl, _, Eq.trans (World.drewN_drewN _ _ _) (congrArg (World.drewN _) (Nat.add_assoc _ _ _))⟩))))
  go_ret
  exact ⟨zE, zB1⟩
 rw [if_neg c6] at H
 have c6b0 : (a0_0 == 4) = false := beq_eq_false_iff_ne.mpr c6
 have c6b1 : (a0_0 != 4) = true := bne_iff_ne.mpr c6
 by_cases c14 : a0_0 = 5
 ·rw [if_pos c14] at H
  have c14b0 : (a0_0 == 5) = true := beq_iff_eq.mpr c14
  have c14b1 : (a0_0 != 5) = false := bne_eq_false_iff_eq.mpr c14
  clear c14
  replace H := zIt H
  obtain ⟨c15b0, H⟩ := H
  replace H := zIt H
  obtain ⟨c16b0, H⟩ := H
  replace H := zO H
  obtain ⟨t406, A17, H⟩ := H
  obtain rfl := Option.some.inj H
  go_enter Try.func78, Try.ntmps78
  go_wp2_with (first | ((with_reducible refine gate_dst (N := 2) rfl ?_); (try (refine gate_guard (by rfl) ?_; dsimp only)); (with_reducible refine zBx 2 71 #[.int .i64 a0_0, .int .i64 a0_1, .int .i64 a0_2, .int .i64 a0_3, .int .i64 a0_4] ?_); intro gb401 hg w18 hbox hb; have BK401 := zM hbox; have GW401 := zM (zW hg (below_size zB1)); have GE401 := zM (zW hg (below_size zB1)); replace HB := zM (below_step zB1 hb); clear hb hbox hg; have hcz19 := zc_5 (w := w18) BK401.1) | (go_at_call 88; (with_reducible refine (spec_InsOk.calls a0_0 a0_1 a0_2 a0_3 a0_4 true _ A3.1).mono ?_); rintro e w20 ⟨rfl, hb⟩; replace BK401 := zM (zb BK401.1 hb); replace HB := zM (below_step zB1 hb); clear hb; have hcz21 := zc_5 (w := w20) BK401.1; have p405 : 0 ≤ (a0_2 : Int) := zA; have q405 : a0_2 < (l1.length : Int) := zA; obtain ⟨ad405, e405, hx405_0⟩ := Kd.at_int HR1.1 a0_2 p405 q405; cases e405; replace hx405_0 := (HB.1.cell (World.block_lt_of_cell? w _ hx405_0)).trans hx405_0; replace p405 := eq_true p405; replace q405 := eq_true q405) | (go_at_call 89; (with_reducible refine (spec_l9Address.calls (wrap64 ((rd l1 a0_2) + a0_4)) t406 _ A17.1).mono ?_); rintro e w' ⟨rfl, ⟨nd, rfl⟩⟩; (try first | exact ⟨rfl, _, World.drewN_drewN _ _ _⟩ | exact ⟨rfl, _, Eq.trans (World.drewN_drewN _ _ _) (congrArg (World.drewN _) (Nat.add_assoc _ _ _))⟩)))
  repeat (go_quiet (first | ((with_reducible refine gate_dst (N := 2) rfl ?_); (try (refine gate_guard (by rfl) ?_; dsimp only)); (with_reducible refine zBx 2 71 #[.int .i64 a0_0, .int .i64 a0_1, .int .i64 a0_2, .int .i64 a0_3, .int .i64 a0_4] ?_); intro gb401 hg w18 hbox hb; have BK401 := zM hbox; have GW401 := zM (zW hg (below_size zB1)); have GE401 := zM (zW hg (below_size zB1)); replace HB := zM (below_step zB1 hb); clear hb hbox hg; have hcz19 := zc_5 (w := w18) BK401.1) | (go_at_call 88; (with_reducible refine (spec_InsOk.calls a0_0 a0_1 a0_2 a0_3 a0_4 true _ A3.1).mono ?_); rintro e w20 ⟨rfl, hb⟩; replace BK401 := zM (zb BK401.1 hb); replace HB := zM (below_step zB1 hb); clear hb; have hcz21 := zc_5 (w := w20) BK401.1; have p405 : 0 ≤ (a0_2 : Int) := zA; have q405 : a0_2 < (l1.length : Int) := zA; obtain ⟨ad405, e405, hx405_0⟩ := Kd.at_int HR1.1 a0_2 p405 q405; cases e405; replace hx405_0 := (HB.1.cell (World.block_lt_of_cell? w _ hx405_0)).trans hx405_0; replace p405 := eq_true p405; replace q405 := eq_true q405) | (go_at_call 89; (with_reducible refine (spec_l9Address.calls (wrap64 ((rd l1 a0_2) + a0_4)) t406 _ A17.1).mono ?_); rintro e w' ⟨rfl, ⟨nd, rfl⟩⟩; (try first | exact ⟨rfl, _, World.drewN_drewN _ _ _⟩ | exact ⟨rfl, _, Eq.trans (World.drewN_drewN _ _ _) (congrArg (World.drewN _) (Nat.add_assoc _ _ _))⟩))); try go_wp2_with (first | ((with_reducible refine gate_dst (N := 2) rfl ?_); (try (refine gate_guard (by rfl) ?_; dsimp only)); (with_reducible refine zBx 2 71 #[.int .i64 a0_0, .int .i64 a0_1, .int .i64 a0_2, .int .i64 a0_3, .int .i64 a0_4] ?_); intro gb401 hg w18 hbox hb; have BK401 := zM hbox; have GW401 := zM (zW hg (below_size zB1)); have GE401 := zM (zW hg (below_size zB1)); replace HB := zM (below_step zB1 hb); clear hb hbox hg; have hcz19 := zc_5 (w := w18) BK401.1) | (go_at_call 88; (with_reducible refine (spec_InsOk.calls a0_0 a0_1 a0_2 a0_3 a0_4 true _ A3.1).mono ?_); rintro e w20 ⟨rfl, hb⟩; replace BK401 := zM (zb BK401.1 hb); replace HB := zM (below_step zB1 hb); clear hb; have hcz21 := zc_5 (w := w20) BK401.1; have p405 : 0 ≤ (a0_2 : Int) := zA; have q405 : a0_2 < (l1.length : Int) := zA; obtain ⟨ad405, e405, hx405_0⟩ := Kd.at_int HR1.1 a0_2 p405 q405; cases e405; replace hx405_0 := (HB.1.cell (World.block_lt_of_cell? w _ hx405_0)).trans hx405_0; replace p405 := eq_true p405; replace q405 := eq_true q405) | (go_at_call 89; (with_reducible refine (spec_l9Address.calls (wrap64 ((rd l1 a0_2) + a0_4)) t406 _ A17.1).mono ?_); rintro e w' ⟨rfl, ⟨nd, rfl⟩⟩; (try first | exact ⟨rfl, _, World.drewN_drewN _ _ _⟩ | exact ⟨rfl, _, Eq.trans (World.drewN_drewN _ _ _) (congrArg (World.drewN _) (Nat.add_assoc _ _ _))⟩))))
  go_ret
  exact ⟨zE, zB1⟩
 rw [if_neg c14] at H
 have c14b0 : (a0_0 == 5) = false := beq_eq_false_iff_ne.mpr c14
 have c14b1 : (a0_0 != 5) = true := bne_iff_ne.mpr c14
 by_cases c22 : a0_0 = 6
 rotate_left
 ·rw [if_neg c22] at H
  have c22b0 : (a0_0 == 6) = false := beq_eq_false_iff_ne.mpr c22
  have c22b1 : (a0_0 != 6) = true := bne_iff_ne.mpr c22
  obtain rfl := Option.some.inj H
  go_enter Try.func78, Try.ntmps78
  go_wp2_with (first | ((with_reducible refine gate_dst (N := 2) rfl ?_); (try (refine gate_guard (by rfl) ?_; dsimp only)); (with_reducible refine zBx 2 71 #[.int .i64 a0_0, .int .i64 a0_1, .int .i64 a0_2, .int .i64 a0_3, .int .i64 a0_4] ?_); intro gb401 hg w30 hbox hb; have BK401 := zM hbox; have GW401 := zM (zW hg (below_size zB1)); have GE401 := zM (zW hg (below_size zB1)); replace HB := zM (below_step zB1 hb); clear hb hbox hg; have hcz31 := zc_5 (w := w30) BK401.1) | (go_at_call 88; (with_reducible refine (spec_InsOk.calls a0_0 a0_1 a0_2 a0_3 a0_4 true _ A3.1).mono ?_); rintro e w32 ⟨rfl, hb⟩; replace BK401 := zM (zb BK401.1 hb); replace HB := zM (below_step zB1 hb); clear hb; have hcz33 := zc_5 (w := w32) BK401.1))
  repeat (go_quiet (first | ((with_reducible refine gate_dst (N := 2) rfl ?_); (try (refine gate_guard (by rfl) ?_; dsimp only)); (with_reducible refine zBx 2 71 #[.int .i64 a0_0, .int .i64 a0_1, .int .i64 a0_2, .int .i64 a0_3, .int .i64 a0_4] ?_); intro gb401 hg w30 hbox hb; have BK401 := zM hbox; have GW401 := zM (zW hg (below_size zB1)); have GE401 := zM (zW hg (below_size zB1)); replace HB := zM (below_step zB1 hb); clear hb hbox hg; have hcz31 := zc_5 (w := w30) BK401.1) | (go_at_call 88; (with_reducible refine (spec_InsOk.calls a0_0 a0_1 a0_2 a0_3 a0_4 true _ A3.1).mono ?_); rintro e w32 ⟨rfl, hb⟩; replace BK401 := zM (zb BK401.1 hb); replace HB := zM (below_step zB1 hb); clear hb; have hcz33 := zc_5 (w := w32) BK401.1)); try go_wp2_with (first | ((with_reducible refine gate_dst (N := 2) rfl ?_); (try (refine gate_guard (by rfl) ?_; dsimp only)); (with_reducible refine zBx 2 71 #[.int .i64 a0_0, .int .i64 a0_1, .int .i64 a0_2, .int .i64 a0_3, .int .i64 a0_4] ?_); intro gb401 hg w30 hbox hb; have BK401 := zM hbox; have GW401 := zM (zW hg (below_size zB1)); have GE401 := zM (zW hg (below_size zB1)); replace HB := zM (below_step zB1 hb); clear hb hbox hg; have hcz31 := zc_5 (w := w30) BK401.1) | (go_at_call 88; (with_reducible refine (spec_InsOk.calls a0_0 a0_1 a0_2 a0_3 a0_4 true _ A3.1).mono ?_); rintro e w32 ⟨rfl, hb⟩; replace BK401 := zM (zb BK401.1 hb); replace HB := zM (below_step zB1 hb); clear hb; have hcz33 := zc_5 (w := w32) BK401.1)))
  go_ret
  exact ⟨zE, zB1⟩
 rw [if_pos c22] at H
 have c22b0 : (a0_0 == 6) = true := beq_iff_eq.mpr c22
 have c22b1 : (a0_0 != 6) = false := bne_eq_false_iff_eq.mpr c22
 clear c22
 replace H := zIt H
 obtain ⟨c23b0, H⟩ := H
 replace H := zIt H
 obtain ⟨c24b0, H⟩ := H
 replace H := zO H
 obtain ⟨t408, A25, H⟩ := H
 obtain rfl := Option.some.inj H
 go_enter Try.func78, Try.ntmps78
 go_wp2_with (first | ((with_reducible refine gate_dst (N := 2) rfl ?_); (try (refine gate_guard (by rfl) ?_; dsimp only)); (with_reducible refine zBx 2 71 #[.int .i64 a0_0, .int .i64 a0_1, .int .i64 a0_2, .int .i64 a0_3, .int .i64 a0_4] ?_); intro gb401 hg w26 hbox hb; have BK401 := zM hbox; have GW401 := zM (zW hg (below_size zB1)); have GE401 := zM (zW hg (below_size zB1)); replace HB := zM (below_step zB1 hb); clear hb hbox hg; have hcz27 := zc_5 (w := w26) BK401.1) | (go_at_call 88; (with_reducible refine (spec_InsOk.calls a0_0 a0_1 a0_2 a0_3 a0_4 true _ A3.1).mono ?_); rintro e w28 ⟨rfl, hb⟩; replace BK401 := zM (zb BK401.1 hb); replace HB := zM (below_step zB1 hb); clear hb; have hcz29 := zc_5 (w := w28) BK401.1; have p407 : 0 ≤ (a0_2 : Int) := zA; have q407 : a0_2 < (l1.length : Int) := zA; obtain ⟨ad407, e407, hx407_0⟩ := Kd.at_int HR1.1 a0_2 p407 q407; cases e407; replace hx407_0 := (HB.1.cell (World.block_lt_of_cell? w _ hx407_0)).trans hx407_0; replace p407 := eq_true p407; replace q407 := eq_true q407) | (go_at_call 89; (with_reducible refine (spec_l9Address.calls (wrap64 ((rd l1 a0_2) + a0_4)) t408 _ A25.1).mono ?_); rintro e w' ⟨rfl, ⟨nd, rfl⟩⟩; (try first | exact ⟨rfl, _, World.drewN_drewN _ _ _⟩ | exact ⟨rfl, _, Eq.trans (World.drewN_drewN _ _ _) (congrArg (World.drewN _) (Nat.add_assoc _ _ _))⟩)))
 repeat (go_quiet (first | ((with_reducible refine gate_dst (N := 2) rfl ?_); (try (refine gate_guard (by rfl) ?_; dsimp only)); (with_reducible refine zBx 2 71 #[.int .i64 a0_0, .int .i64 a0_1, .int .i64 a0_2, .int .i64 a0_3, .int .i64 a0_4] ?_); intro gb401 hg w26 hbox hb; have BK401 := zM hbox; have GW401 := zM (zW hg (below_size zB1)); have GE401 := zM (zW hg (below_size zB1)); replace HB := zM (below_step zB1 hb); clear hb hbox hg; have hcz27 := zc_5 (w := w26) BK401.1) | (go_at_call 88; (with_reducible refine (spec_InsOk.calls a0_0 a0_1 a0_2 a0_3 a0_4 true _ A3.1).mono ?_); rintro e w28 ⟨rfl, hb⟩; replace BK401 := zM (zb BK401.1 hb); replace HB := zM (below_step zB1 hb); clear hb; have hcz29 := zc_5 (w := w28) BK401.1; have p407 : 0 ≤ (a0_2 : Int) := zA; have q407 : a0_2 < (l1.length : Int) := zA; obtain ⟨ad407, e407, hx407_0⟩ := Kd.at_int HR1.1 a0_2 p407 q407; cases e407; replace hx407_0 := (HB.1.cell (World.block_lt_of_cell? w _ hx407_0)).trans hx407_0; replace p407 := eq_true p407; replace q407 := eq_true q407) | (go_at_call 89; (with_reducible refine (spec_l9Address.calls (wrap64 ((rd l1 a0_2) + a0_4)) t408 _ A25.1).mono ?_); rintro e w' ⟨rfl, ⟨nd, rfl⟩⟩; (try first | exact ⟨rfl, _, World.drewN_drewN _ _ _⟩ | exact ⟨rfl, _, Eq.trans (World.drewN_drewN _ _ _) (congrArg (World.drewN _) (Nat.add_assoc _ _ _))⟩))); try go_wp2_with (first | ((with_reducible refine gate_dst (N := 2) rfl ?_); (try (refine gate_guard (by rfl) ?_; dsimp only)); (with_reducible refine zBx 2 71 #[.int .i64 a0_0, .int .i64 a0_1, .int .i64 a0_2, .int .i64 a0_3, .int .i64 a0_4] ?_); intro gb401 hg w26 hbox hb; have BK401 := zM hbox; have GW401 := zM (zW hg (below_size zB1)); have GE401 := zM (zW hg (below_size zB1)); replace HB := zM (below_step zB1 hb); clear hb hbox hg; have hcz27 := zc_5 (w := w26) BK401.1) | (go_at_call 88; (with_reducible refine (spec_InsOk.calls a0_0 a0_1 a0_2 a0_3 a0_4 true _ A3.1).mono ?_); rintro e w28 ⟨rfl, hb⟩; replace BK401 := zM (zb BK401.1 hb); replace HB := zM (below_step zB1 hb); clear hb; have hcz29 := zc_5 (w := w28) BK401.1; have p407 : 0 ≤ (a0_2 : Int) := zA; have q407 : a0_2 < (l1.length : Int) := zA; obtain ⟨ad407, e407, hx407_0⟩ := Kd.at_int HR1.1 a0_2 p407 q407; cases e407; replace hx407_0 := (HB.1.cell (World.block_lt_of_cell? w _ hx407_0)).trans hx407_0; replace p407 := eq_true p407; replace q407 := eq_true q407) | (go_at_call 89; (with_reducible refine (spec_l9Address.calls (wrap64 ((rd l1 a0_2) + a0_4)) t408 _ A25.1).mono ?_); rintro e w' ⟨rfl, ⟨nd, rfl⟩⟩; (try first | exact ⟨rfl, _, World.drewN_drewN _ _ _⟩ | exact ⟨rfl, _, Eq.trans (World.drewN_drewN _ _ _) (congrArg (World.drewN _) (Nat.add_assoc _ _ _))⟩))))
 go_ret
 exact ⟨zE, zB1⟩

/-! ### spec_l9Copy: function 80 -/
def spec_l9Copy.f (l0_0 : List Int) (a0_1 : Int) (a0_2 : Int) : Option (List Int × Int × Int) := (some (([] : List Int) : List Int)).bind fun y411 => (if y411.length + l0_0.length < 17592186044416 then (some ((y411 ++ l0_0), a0_1, a0_2)) else (none))
theorem spec_l9Copy.calls (A0_0 : Option Addr) (c0_0 : Nat) (l0_0 : List Int) (a0_1 : Int) (a0_2 : Int) (r1 : List Int) (r2 : Int) (r3 : Int) (w : World) (hr0_0 : Kd.C (Kd.int .i64) w A0_0 l0_0.length l0_0) (hc0_0 : l0_0.length ≤ c0_0) (h : spec_l9Copy.f l0_0 a0_1 a0_2 = some (r1, r2, r3)) :
  Calls Try.prog 80 #[.agg #[.slice A0_0 l0_0.length c0_0, .int .i64 a0_1, .int .i64 a0_2]] w fun e w' => ∃ v0_ : Value, e = .returned (.agg #[v0_, .int .i64 r2, .int .i64 r3]) ∧ Kd.R (Kd.int .i64) 3 w' w.heap.size (fun _ => True) v0_ r1 ∧ Below w.heap.size w w' := by
 have hu49 := Try.underlying49
 have HR0_0 := zM hr0_0
 have HC0_0 := zM hc0_0
 clear hr0_0 hc0_0
 have HB := zM (Below.refl w.heap.size w)
 unfold spec_l9Copy.f at h
 have H := h
 clear h
 replace H := zY H
 obtain ⟨y411, Ny411, H⟩ := H
 replace H := zIn H
 obtain ⟨LMc2, H⟩ := H
 generalize hy414 : ((y411 ++ l0_0) : List Int) = y414 at H
 have Ny414 := zM hy414.symm
 clear hy414
 simp only [Option.some.injEq, Prod.mk.injEq] at H
 obtain ⟨rfl, rfl, rfl⟩ := H
 go_enter Try.func80, Try.ntmps80
 go_wp2_with (first | ((with_reducible refine zBx 1 49 #[.slice A0_0 l0_0.length c0_0, .int .i64 a0_1, .int .i64 a0_2] ?_); intro gb409 hg w3 hbox hb; have BK409 := zM hbox; have GW409 := zM (zW hg (below_size zB1)); have GE409 := zM (zW hg (below_size zB1)); replace HB := zM (below_step zB1 hb); clear hb hbox hg) | ((with_reducible refine zBx 2 49 #[.slice none 0 0, .int .i64 0, .int .i64 0] ?_); intro gb410 hg w4 hbox hb; have BK410 := zM hbox; have GW410 := zM (zW hg (below_size zB1)); have GE410 := zM (zW hg (below_size zB1)); replace HB := zM (below_step zB1 hb); have NB409_410 := zM ((zn BK409.1 hg : gb409 ≠ gb410)); have NB410_409 := zM ((zm BK409.1 hg : gb410 ≠ gb409)); replace BK409 := zM (zb BK409.1 hb); clear hb hbox hg) | ((with_reducible refine gate_dst (N := 3) rfl ?_); refine Kd.R_lit (Kd.int .i64) _ 3 ?hg (N := 3) ?hd (xs := ([] : List Int)) (inner := []) (ok := fun _ => True) (okp := fun _ => True) ?hr ?hp (fun _ hk => hk) trivial (Below.refl _ _) (Nat.le_refl _) (by simp) ?_; (case hd => rfl); (case hg => rfl); (case hr => exact zHH); (case hp => exact (Reps.none _ _)); intro v412 w5 ho6 hb hg_ hnew_; clear hg_ hnew_; (first | rw [← Ny411.1] at ho6 | (simp only [Int.reduceToNat] at ho6; rw [← Ny411.1] at ho6)); have HO413 := zM (Kd.R_lower ho6 (below_size zB1)); replace BK409 := zM (zb BK409.1 hb); replace BK410 := zM (zb BK410.1 hb); replace HB := zM (below_step zB1 hb); clear hb ho6; have hnb7 := NB409_410.1; have hnc7 := NB410_409.1; have hcz8 := zc_3 (w := w5) BK409.1) | ((with_reducible refine gate_builtin (b := .append) (xs := #[.tmp 3, .tmp 5]) rfl ?_); at_builtin; refine Kd.R_append_rows (Kd.int .i64) (w0 := w) w.heap.size rfl (.tmp 3) (.tmp 5) 29 3 (.int .i64 0) 8 rfl Try.underlying29 info3 rfl (by decide) (by omega) v412 y411 l0_0 _ _ _ (fun _ => True) (fun _ => False) rfl rfl ?aO ?aR (fun _ _ h => h) (fun _ h => h.elim) ?aF ?aB ?aS ?aL ?_; (case aR => exact zC (Kd.C_below HR0_0.1 HB.1)); (case aB => exact zB1); (case aF => exact (fun _ _ => trivial)); (case aO => exact (zR HO413.1)); (case aS => exact (below_size zB1)); (case aL => have := LMc2.out; omega); intro v415 w9 ho hb hg hat; rw [← Ny414.1] at ho; replace BK409 := zM (zg BK409.1 hg (Kd.R_ne HO413.1 BK409.1 (by decide))); replace BK410 := zM (zg BK410.1 hg (Kd.R_ne HO413.1 BK410.1 (by decide))); replace HB := zM hb; have HO416 := zM ho; clear HO413; clear ho hb hg hat; obtain ⟨Ao10, co10, eo10⟩ := Kd.R_slice HO416.1; subst eo10; have hcz11 := zc_3 (w := w9) BK409.1; have hcz12 := zc_3 (w := w9) BK410.1))
 refine bodyPost_ret (results_cell_row rfl _ _ gb410 49 #[.slice Ao10 y414.length co10, .int .i64 a0_1, .int .i64 a0_2] (0, 0) _ rfl zPq Try.underlying49 rfl (by kernel_rfl)) rfl ?_
 exact ⟨_, zE, by refine zrR ?_; exact Kd.R_mono (zfR (zfR (zfR (Kd.R_far (p := ⟨gb409, 0, none⟩) (Kd.R_types (Kd.R_types HO416.1 BK409.1 (by decide)) BK410.1 (by decide)) (fun _ hk => hk.1.2) (.slice Ao10 y414.length co10))))) (fun _ hk => trivial), zB1⟩

/-! ### spec_l9Word: function 90 -/
def spec_l9Word.f (a0 : Int) : Option (Int) := some (Go.bits .and .i64 a0 65535)
theorem spec_l9Word.calls (a0 : Int) (r : Int) (w : World) (h : spec_l9Word.f a0 = some r) :
  Calls Try.prog 90 #[.int .i64 a0] w fun e w' => e = .returned (.int .i64 r) ∧ Drawn0 w w' := by
 unfold spec_l9Word.f at h
 have H := h
 clear h
 obtain rfl := Option.some.inj H
 go_enter Try.func90, Try.ntmps90
 go_wp2
 go_ret
 exact ⟨zJJ, zDD⟩

end Go.Proofs.Ytgbjengnkbomoaa.PFnRacesOfCounts
