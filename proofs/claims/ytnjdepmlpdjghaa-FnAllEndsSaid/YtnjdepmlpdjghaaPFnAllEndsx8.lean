-- made by wip/tools/myprint.py out of the seat's translation
import Derived.Test.YtnjdepmlpdjghaaPFnAllEndsx0
import Derived.Test.YtnjdepmlpdjghaaPFnAllEndsx7
namespace Go.Proofs.Ytnjdepmlpdjghaa.PFnAllEnds
open Go.RowKit Go.Proofs.YtnjdepmlpdjghaaW.PrintWords Go.Proofs.YtnjdepmlpdjghaaW.PrintLast Go.Proofs.YtnjdepmlpdjghaaW.PrintMore
attribute [local go_sem] max2_int min2_int max_two min_two max_three min_three max_four min_four   -- for this text's walks alone
set_option linter.unusedVariables false
set_option linter.unusedSimpArgs false
set_option maxHeartbeats 8000000
set_option maxRecDepth 100000

/-! ### impl_Target: function 88 -/
def impl_Target.f (a0_0 : Int) (a0_1 : Int) (a0_2 : Int) (a0_3 : Int) (a0_4 : Int) (l1 : List Int) : Option (Int) := (impl_InsOk.f a0_0 a0_1 a0_2 a0_3 a0_4).bind fun t262 => (if t262 = true then ((impl_aims.f a0_0 a0_1 a0_2 a0_3 a0_4).bind fun t263 => (if t263 = true then (if (l1.length : Int) = 4 then (if 0 ≤ a0_2 then (if a0_2 < (l1.length : Int) then ((impl_address.f (wrap64 ((rd l1 a0_2) + a0_4))).bind fun t265 => (some t265)) else (none)) else (none)) else (some (-1))) else (some (-1)))) else (some (-1)))
theorem impl_Target.calls (a0_0 : Int) (a0_1 : Int) (a0_2 : Int) (a0_3 : Int) (a0_4 : Int) (A1 : Option Addr) (c1 : Nat) (l1 : List Int) (r : Int) (w : World) (hr1 : Kd.C (Kd.int .i64) w A1 l1.length l1) (hc1 : l1.length ≤ c1) (h : impl_Target.f a0_0 a0_1 a0_2 a0_3 a0_4 l1 = some r) :
  Calls Try.prog 88 #[.agg #[.int .i64 a0_0, .int .i64 a0_1, .int .i64 a0_2, .int .i64 a0_3, .int .i64 a0_4], .slice A1 l1.length c1] w fun e w' => e = .returned (.int .i64 r) ∧ Below w.heap.size w w' := by
 have hu59 := Try.underlying59
 have HR1 := zM hr1
 have HC1 := zM hc1
 clear hr1 hc1
 have HB := zM (Below.refl w.heap.size w)
 unfold impl_Target.f at h
 have H := h
 clear h
 replace H := zO H
 obtain ⟨t262, A3, H⟩ := H
 by_cases c4 : t262 = true
 rotate_left
 ·replace c4 := Bool.eq_false_iff.mpr c4
  subst c4
  rw [if_neg zF] at H
  obtain rfl := Option.some.inj H
  go_enter Try.func88, Try.ntmps88
  go_wp2_with (first | ((with_reducible refine gate_dst (N := 2) rfl ?_); (try (refine gate_guard (by rfl) ?_; dsimp only)); (with_reducible refine zBx 2 59 #[.int .i64 a0_0, .int .i64 a0_1, .int .i64 a0_2, .int .i64 a0_3, .int .i64 a0_4] ?_); intro gb261 hg w27 hbox hb; have BK261 := zM hbox; have GW261 := zM (zW hg (below_size zB0)); have GE261 := zM (zW hg (below_size zB0)); replace HB := zM (below_step zB0 hb); clear hb hbox hg; have hcz28 := zc_5 (w := w27) BK261.1) | (go_at_call 91; (with_reducible refine (impl_InsOk.calls a0_0 a0_1 a0_2 a0_3 a0_4 false _ A3.1).mono ?_); rintro e w29 ⟨rfl, hb⟩; replace BK261 := zM (zb BK261.1 hb); replace HB := zM (below_step zB0 hb); clear hb))
  repeat (go_quiet (first | ((with_reducible refine gate_dst (N := 2) rfl ?_); (try (refine gate_guard (by rfl) ?_; dsimp only)); (with_reducible refine zBx 2 59 #[.int .i64 a0_0, .int .i64 a0_1, .int .i64 a0_2, .int .i64 a0_3, .int .i64 a0_4] ?_); intro gb261 hg w27 hbox hb; have BK261 := zM hbox; have GW261 := zM (zW hg (below_size zB0)); have GE261 := zM (zW hg (below_size zB0)); replace HB := zM (below_step zB0 hb); clear hb hbox hg; have hcz28 := zc_5 (w := w27) BK261.1) | (go_at_call 91; (with_reducible refine (impl_InsOk.calls a0_0 a0_1 a0_2 a0_3 a0_4 false _ A3.1).mono ?_); rintro e w29 ⟨rfl, hb⟩; replace BK261 := zM (zb BK261.1 hb); replace HB := zM (below_step zB0 hb); clear hb)); try go_wp2_with (first | ((with_reducible refine gate_dst (N := 2) rfl ?_); (try (refine gate_guard (by rfl) ?_; dsimp only)); (with_reducible refine zBx 2 59 #[.int .i64 a0_0, .int .i64 a0_1, .int .i64 a0_2, .int .i64 a0_3, .int .i64 a0_4] ?_); intro gb261 hg w27 hbox hb; have BK261 := zM hbox; have GW261 := zM (zW hg (below_size zB0)); have GE261 := zM (zW hg (below_size zB0)); replace HB := zM (below_step zB0 hb); clear hb hbox hg; have hcz28 := zc_5 (w := w27) BK261.1) | (go_at_call 91; (with_reducible refine (impl_InsOk.calls a0_0 a0_1 a0_2 a0_3 a0_4 false _ A3.1).mono ?_); rintro e w29 ⟨rfl, hb⟩; replace BK261 := zM (zb BK261.1 hb); replace HB := zM (below_step zB0 hb); clear hb)))
  go_ret
  exact ⟨zE, zB0⟩
 subst c4
 rw [if_pos rfl] at H
 replace H := zO H
 obtain ⟨t263, A5, H⟩ := H
 by_cases c6 : t263 = true
 rotate_left
 ·replace c6 := Bool.eq_false_iff.mpr c6
  subst c6
  rw [if_neg zF] at H
  obtain rfl := Option.some.inj H
  go_enter Try.func88, Try.ntmps88
  go_wp2_with (first | ((with_reducible refine gate_dst (N := 2) rfl ?_); (try (refine gate_guard (by rfl) ?_; dsimp only)); (with_reducible refine zBx 2 59 #[.int .i64 a0_0, .int .i64 a0_1, .int .i64 a0_2, .int .i64 a0_3, .int .i64 a0_4] ?_); intro gb261 hg w22 hbox hb; have BK261 := zM hbox; have GW261 := zM (zW hg (below_size zB0)); have GE261 := zM (zW hg (below_size zB0)); replace HB := zM (below_step zB0 hb); clear hb hbox hg; have hcz23 := zc_5 (w := w22) BK261.1) | (go_at_call 91; (with_reducible refine (impl_InsOk.calls a0_0 a0_1 a0_2 a0_3 a0_4 true _ A3.1).mono ?_); rintro e w24 ⟨rfl, hb⟩; replace BK261 := zM (zb BK261.1 hb); replace HB := zM (below_step zB0 hb); clear hb; have hcz25 := zc_5 (w := w24) BK261.1) | (go_at_call 113; (with_reducible refine (impl_aims.calls a0_0 a0_1 a0_2 a0_3 a0_4 false _ A5.1).mono ?_); rintro e w26 ⟨rfl, hb⟩; replace BK261 := zM (zb BK261.1 hb); replace HB := zM (below_step zB0 hb); clear hb))
  repeat (go_quiet (first | ((with_reducible refine gate_dst (N := 2) rfl ?_); (try (refine gate_guard (by rfl) ?_; dsimp only)); (with_reducible refine zBx 2 59 #[.int .i64 a0_0, .int .i64 a0_1, .int .i64 a0_2, .int .i64 a0_3, .int .i64 a0_4] ?_); intro gb261 hg w22 hbox hb; have BK261 := zM hbox; have GW261 := zM (zW hg (below_size zB0)); have GE261 := zM (zW hg (below_size zB0)); replace HB := zM (below_step zB0 hb); clear hb hbox hg; have hcz23 := zc_5 (w := w22) BK261.1) | (go_at_call 91; (with_reducible refine (impl_InsOk.calls a0_0 a0_1 a0_2 a0_3 a0_4 true _ A3.1).mono ?_); rintro e w24 ⟨rfl, hb⟩; replace BK261 := zM (zb BK261.1 hb); replace HB := zM (below_step zB0 hb); clear hb; have hcz25 := zc_5 (w := w24) BK261.1) | (go_at_call 113; (with_reducible refine (impl_aims.calls a0_0 a0_1 a0_2 a0_3 a0_4 false _ A5.1).mono ?_); rintro e w26 ⟨rfl, hb⟩; replace BK261 := zM (zb BK261.1 hb); replace HB := zM (below_step zB0 hb); clear hb)); try go_wp2_with (first | ((with_reducible refine gate_dst (N := 2) rfl ?_); (try (refine gate_guard (by rfl) ?_; dsimp only)); (with_reducible refine zBx 2 59 #[.int .i64 a0_0, .int .i64 a0_1, .int .i64 a0_2, .int .i64 a0_3, .int .i64 a0_4] ?_); intro gb261 hg w22 hbox hb; have BK261 := zM hbox; have GW261 := zM (zW hg (below_size zB0)); have GE261 := zM (zW hg (below_size zB0)); replace HB := zM (below_step zB0 hb); clear hb hbox hg; have hcz23 := zc_5 (w := w22) BK261.1) | (go_at_call 91; (with_reducible refine (impl_InsOk.calls a0_0 a0_1 a0_2 a0_3 a0_4 true _ A3.1).mono ?_); rintro e w24 ⟨rfl, hb⟩; replace BK261 := zM (zb BK261.1 hb); replace HB := zM (below_step zB0 hb); clear hb; have hcz25 := zc_5 (w := w24) BK261.1) | (go_at_call 113; (with_reducible refine (impl_aims.calls a0_0 a0_1 a0_2 a0_3 a0_4 false _ A5.1).mono ?_); rintro e w26 ⟨rfl, hb⟩; replace BK261 := zM (zb BK261.1 hb); replace HB := zM (below_step zB0 hb); clear hb)))
  go_ret
  exact ⟨zE, zB0⟩
 subst c6
 rw [if_pos rfl] at H
 by_cases c7 : (l1.length : Int) = 4
 rotate_left
 ·rw [if_neg c7] at H
  have c7b0 : ((l1.length : Int) == 4) = false := beq_eq_false_iff_ne.mpr c7
  have c7b1 : ((l1.length : Int) != 4) = true := bne_iff_ne.mpr c7
  obtain rfl := Option.some.inj H
  go_enter Try.func88, Try.ntmps88
  go_wp2_with (first | ((with_reducible refine gate_dst (N := 2) rfl ?_); (try (refine gate_guard (by rfl) ?_; dsimp only)); (with_reducible refine zBx 2 59 #[.int .i64 a0_0, .int .i64 a0_1, .int .i64 a0_2, .int .i64 a0_3, .int .i64 a0_4] ?_); intro gb261 hg w17 hbox hb; have BK261 := zM hbox; have GW261 := zM (zW hg (below_size zB0)); have GE261 := zM (zW hg (below_size zB0)); replace HB := zM (below_step zB0 hb); clear hb hbox hg; have hcz18 := zc_5 (w := w17) BK261.1) | (go_at_call 91; (with_reducible refine (impl_InsOk.calls a0_0 a0_1 a0_2 a0_3 a0_4 true _ A3.1).mono ?_); rintro e w19 ⟨rfl, hb⟩; replace BK261 := zM (zb BK261.1 hb); replace HB := zM (below_step zB0 hb); clear hb; have hcz20 := zc_5 (w := w19) BK261.1) | (go_at_call 113; (with_reducible refine (impl_aims.calls a0_0 a0_1 a0_2 a0_3 a0_4 true _ A5.1).mono ?_); rintro e w21 ⟨rfl, hb⟩; replace BK261 := zM (zb BK261.1 hb); replace HB := zM (below_step zB0 hb); clear hb))
  repeat (go_quiet (first | ((with_reducible refine gate_dst (N := 2) rfl ?_); (try (refine gate_guard (by rfl) ?_; dsimp only)); (with_reducible refine zBx 2 59 #[.int .i64 a0_0, .int .i64 a0_1, .int .i64 a0_2, .int .i64 a0_3, .int .i64 a0_4] ?_); intro gb261 hg w17 hbox hb; have BK261 := zM hbox; have GW261 := zM (zW hg (below_size zB0)); have GE261 := zM (zW hg (below_size zB0)); replace HB := zM (below_step zB0 hb); clear hb hbox hg; have hcz18 := zc_5 (w := w17) BK261.1) | (go_at_call 91; (with_reducible refine (impl_InsOk.calls a0_0 a0_1 a0_2 a0_3 a0_4 true _ A3.1).mono ?_); rintro e w19 ⟨rfl, hb⟩; replace BK261 := zM (zb BK261.1 hb); replace HB := zM (below_step zB0 hb); clear hb; have hcz20 := zc_5 (w := w19) BK261.1) | (go_at_call 113; (with_reducible refine (impl_aims.calls a0_0 a0_1 a0_2 a0_3 a0_4 true _ A5.1).mono ?_); rintro e w21 ⟨rfl, hb⟩; replace BK261 := zM (zb BK261.1 hb); replace HB := zM (below_step zB0 hb); clear hb)); try go_wp2_with (first | ((with_reducible refine gate_dst (N := 2) rfl ?_); (try (refine gate_guard (by rfl) ?_; dsimp only)); (with_reducible refine zBx 2 59 #[.int .i64 a0_0, .int .i64 a0_1, .int .i64 a0_2, .int .i64 a0_3, .int .i64 a0_4] ?_); intro gb261 hg w17 hbox hb; have BK261 := zM hbox; have GW261 := zM (zW hg (below_size zB0)); have GE261 := zM (zW hg (below_size zB0)); replace HB := zM (below_step zB0 hb); clear hb hbox hg; have hcz18 := zc_5 (w := w17) BK261.1) | (go_at_call 91; (with_reducible refine (impl_InsOk.calls a0_0 a0_1 a0_2 a0_3 a0_4 true _ A3.1).mono ?_); rintro e w19 ⟨rfl, hb⟩; replace BK261 := zM (zb BK261.1 hb); replace HB := zM (below_step zB0 hb); clear hb; have hcz20 := zc_5 (w := w19) BK261.1) | (go_at_call 113; (with_reducible refine (impl_aims.calls a0_0 a0_1 a0_2 a0_3 a0_4 true _ A5.1).mono ?_); rintro e w21 ⟨rfl, hb⟩; replace BK261 := zM (zb BK261.1 hb); replace HB := zM (below_step zB0 hb); clear hb)))
  go_ret
  exact ⟨zE, zB0⟩
 rw [if_pos c7] at H
 have c7b0 : ((l1.length : Int) == 4) = true := beq_iff_eq.mpr c7
 have c7b1 : ((l1.length : Int) != 4) = false := bne_eq_false_iff_eq.mpr c7
 clear c7
 replace H := zIt H
 obtain ⟨c8b0, H⟩ := H
 replace H := zIt H
 obtain ⟨c9b0, H⟩ := H
 replace H := zO H
 obtain ⟨t265, A10, H⟩ := H
 obtain rfl := Option.some.inj H
 go_enter Try.func88, Try.ntmps88
 go_wp2_with (first | ((with_reducible refine gate_dst (N := 2) rfl ?_); (try (refine gate_guard (by rfl) ?_; dsimp only)); (with_reducible refine zBx 2 59 #[.int .i64 a0_0, .int .i64 a0_1, .int .i64 a0_2, .int .i64 a0_3, .int .i64 a0_4] ?_); intro gb261 hg w11 hbox hb; have BK261 := zM hbox; have GW261 := zM (zW hg (below_size zB0)); have GE261 := zM (zW hg (below_size zB0)); replace HB := zM (below_step zB0 hb); clear hb hbox hg; have hcz12 := zc_5 (w := w11) BK261.1) | (go_at_call 91; (with_reducible refine (impl_InsOk.calls a0_0 a0_1 a0_2 a0_3 a0_4 true _ A3.1).mono ?_); rintro e w13 ⟨rfl, hb⟩; replace BK261 := zM (zb BK261.1 hb); replace HB := zM (below_step zB0 hb); clear hb; have hcz14 := zc_5 (w := w13) BK261.1) | (go_at_call 113; (with_reducible refine (impl_aims.calls a0_0 a0_1 a0_2 a0_3 a0_4 true _ A5.1).mono ?_); rintro e w15 ⟨rfl, hb⟩; replace BK261 := zM (zb BK261.1 hb); replace HB := zM (below_step zB0 hb); clear hb; have hcz16 := zc_5 (w := w15) BK261.1; obtain ⟨p264, q264, ad264, e264, hx264_0⟩ := zRd (Kd.at_int HR1.1 a0_2); cases e264; replace hx264_0 := zHx HB.1 hx264_0) | (go_at_call 114; (with_reducible refine (impl_address.calls (wrap64 ((rd l1 a0_2) + a0_4)) t265 _ A10.1).mono ?_); rintro e w' ⟨rfl, ⟨nd, rfl⟩⟩; (try first | exact ⟨rfl, _, World.drewN_drewN _ _ _⟩ | exact ⟨rfl, _, Eq.trans (World.drewN_drewN _ _ _) (congrArg (World.drewN _) (Nat.add_assoc _ _ _))⟩)))
 repeat (go_quiet (first | ((with_reducible refine gate_dst (N := 2) rfl ?_); (try (refine gate_guard (by rfl) ?_; dsimp only)); (with_reducible refine zBx 2 59 #[.int .i64 a0_0, .int .i64 a0_1, .int .i64 a0_2, .int .i64 a0_3, .int .i64 a0_4] ?_); intro gb261 hg w11 hbox hb; have BK261 := zM hbox; have GW261 := zM (zW hg (below_size zB0)); have GE261 := zM (zW hg (below_size zB0)); replace HB := zM (below_step zB0 hb); clear hb hbox hg; have hcz12 := zc_5 (w := w11) BK261.1) | (go_at_call 91; (with_reducible refine (impl_InsOk.calls a0_0 a0_1 a0_2 a0_3 a0_4 true _ A3.1).mono ?_); rintro e w13 ⟨rfl, hb⟩; replace BK261 := zM (zb BK261.1 hb); replace HB := zM (below_step zB0 hb); clear hb; have hcz14 := zc_5 (w := w13) BK261.1) | (go_at_call 113; (with_reducible refine (impl_aims.calls a0_0 a0_1 a0_2 a0_3 a0_4 true _ A5.1).mono ?_); rintro e w15 ⟨rfl, hb⟩; replace BK261 := zM (zb BK261.1 hb); replace HB := zM (below_step zB0 hb); clear hb; have hcz16 := zc_5 (w := w15) BK261.1; obtain ⟨p264, q264, ad264, e264, hx264_0⟩ := zRd (Kd.at_int HR1.1 a0_2); cases e264; replace hx264_0 := zHx HB.1 hx264_0) | (go_at_call 114; (with_reducible refine (impl_address.calls (wrap64 ((rd l1 a0_2) + a0_4)) t265 _ A10.1).mono ?_); rintro e w' ⟨rfl, ⟨nd, rfl⟩⟩; (try first | exact ⟨rfl, _, World.drewN_drewN _ _ _⟩ | exact ⟨rfl, _, Eq.trans (World.drewN_drewN _ _ _) (congrArg (World.drewN _) (Nat.add_assoc _ _ _))⟩))); try go_wp2_with (first | ((with_reducible refine gate_dst (N := 2) rfl ?_); (try (refine gate_guard (by rfl) ?_; dsimp only)); (with_reducible refine zBx 2 59 #[.int .i64 a0_0, .int .i64 a0_1, .int .i64 a0_2, .int .i64 a0_3, .int .i64 a0_4] ?_); intro gb261 hg w11 hbox hb; have BK261 := zM hbox; have GW261 := zM (zW hg (below_size zB0)); have GE261 := zM (zW hg (below_size zB0)); replace HB := zM (below_step zB0 hb); clear hb hbox hg; have hcz12 := zc_5 (w := w11) BK261.1) | (go_at_call 91; (with_reducible refine (impl_InsOk.calls a0_0 a0_1 a0_2 a0_3 a0_4 true _ A3.1).mono ?_); rintro e w13 ⟨rfl, hb⟩; replace BK261 := zM (zb BK261.1 hb); replace HB := zM (below_step zB0 hb); clear hb; have hcz14 := zc_5 (w := w13) BK261.1) | (go_at_call 113; (with_reducible refine (impl_aims.calls a0_0 a0_1 a0_2 a0_3 a0_4 true _ A5.1).mono ?_); rintro e w15 ⟨rfl, hb⟩; replace BK261 := zM (zb BK261.1 hb); replace HB := zM (below_step zB0 hb); clear hb; have hcz16 := zc_5 (w := w15) BK261.1; obtain ⟨p264, q264, ad264, e264, hx264_0⟩ := zRd (Kd.at_int HR1.1 a0_2); cases e264; replace hx264_0 := zHx HB.1 hx264_0) | (go_at_call 114; (with_reducible refine (impl_address.calls (wrap64 ((rd l1 a0_2) + a0_4)) t265 _ A10.1).mono ?_); rintro e w' ⟨rfl, ⟨nd, rfl⟩⟩; (try first | exact ⟨rfl, _, World.drewN_drewN _ _ _⟩ | exact ⟨rfl, _, Eq.trans (World.drewN_drewN _ _ _) (congrArg (World.drewN _) (Nat.add_assoc _ _ _))⟩))))
 go_ret
 exact ⟨zE, zB0⟩

/-! ### impl_copyHart: function 86 -/
def impl_copyHart.f (l0_0 : List Int) (a0_1 : Int) (a0_2 : Int) : Option (List Int × Int × Int) := (slices_Clone_int_int.f l0_0).bind fun t268 => (some (t268, a0_1, a0_2))
theorem impl_copyHart.calls (A0_0 : Option Addr) (c0_0 : Nat) (l0_0 : List Int) (a0_1 : Int) (a0_2 : Int) (r1 : List Int) (r2 : Int) (r3 : Int) (w : World) (hr0_0 : Kd.C (Kd.int .i64) w A0_0 l0_0.length l0_0) (hc0_0 : l0_0.length ≤ c0_0) (h : impl_copyHart.f l0_0 a0_1 a0_2 = some (r1, r2, r3)) :
  Calls Try.prog 86 #[.agg #[.slice A0_0 l0_0.length c0_0, .int .i64 a0_1, .int .i64 a0_2]] w fun e w' => ∃ v0_ : Value, e = .returned (.agg #[v0_, .int .i64 r2, .int .i64 r3]) ∧ Kd.R (Kd.int .i64) 3 w' w.heap.size (fun _ => True) v0_ r1 ∧ Below w.heap.size w w' := by
 have hu29 := Try.underlying29
 have HR0_0 := zM hr0_0
 have HC0_0 := zM hc0_0
 clear hr0_0 hc0_0
 have HB := zM (Below.refl w.heap.size w)
 unfold impl_copyHart.f at h
 have H := h
 clear h
 replace H := zO H
 obtain ⟨t268, A2, H⟩ := H
 simp only [Option.some.injEq, Prod.mk.injEq] at H
 obtain ⟨rfl, rfl, rfl⟩ := H
 go_enter Try.func86, Try.ntmps86
 go_wp2_with (first | ((with_reducible refine zBx 1 29 #[.slice A0_0 l0_0.length c0_0, .int .i64 a0_1, .int .i64 a0_2] ?_); intro gb266 hg w3 hbox hb; have BK266 := zM hbox; have GW266 := zM (zW hg (below_size zB0)); have GE266 := zM (zW hg (below_size zB0)); replace HB := zM (below_step zB0 hb); clear hb hbox hg) | ((with_reducible refine zBx 2 29 #[.slice none 0 0, .int .i64 0, .int .i64 0] ?_); intro gb267 hg w4 hbox hb; have BK267 := zM hbox; have GW267 := zM (zW hg (below_size zB0)); have GE267 := zM (zW hg (below_size zB0)); replace HB := zM (below_step zB0 hb); have NB266_267 := zM ((zn BK266.1 hg : gb266 ≠ gb267)); have NB267_266 := zM ((zm BK266.1 hg : gb267 ≠ gb266)); replace BK266 := zM (zb BK266.1 hb); clear hb hbox hg; have hnb5 := NB266_267.1; have hnc5 := NB267_266.1; have hcz6 := zc_3 (w := w4) BK266.1) | ((with_reducible refine zG Try.func41 5 #[.slice A0_0 l0_0.length c0_0] ?_); (with_reducible refine (slices_Clone_int_int.calls _ _ l0_0 t268 _ ?side1 ?side2 A2.1).mono ?_); (case side1 => exact zC (Kd.C_below HR0_0.1 HB.1)); (case side2 => exact HC0_0.1); rintro e w7 ⟨v269, rfl, ho0, hb⟩; refine ⟨_, rfl, ?_⟩; have HO270 := zM (Kd.R_lower ho0 (below_size zB0)); replace BK266 := zM (zb BK266.1 hb); replace BK267 := zM (zb BK267.1 hb); replace HB := zM (below_step zB0 hb); clear hb ho0; obtain ⟨Ao8, co8, eo8⟩ := Kd.R_slice HO270.1; subst eo8; have hcz9 := zc_3 (w := w7) BK266.1; have hcz10 := zc_3 (w := w7) BK267.1))
 refine bodyPost_ret (results_cell_row rfl _ _ gb267 29 #[.slice Ao8 t268.length co8, .int .i64 a0_1, .int .i64 a0_2] (0, 0) _ rfl zPq Try.underlying29 rfl (by kernel_rfl)) rfl ?_
 exact ⟨_, zE, by refine zrR ?_; exact Kd.R_mono (zfR (zfR (zfR (zgR (Kd.R_types (Kd.R_types HO270.1 BK266.1 (by decide)) BK267.1 (by decide)))))) (fun _ hk => trivial), zB0⟩

/-! ### impl_wrapped: function 115 -/
def impl_wrapped.f (a0 : Int) : Option (Int) := some (Int.tmod (wrap64 ((wrap64 ((Int.tmod a0 65536) + 65535)) + 1)) 65536)
theorem impl_wrapped.calls (a0 : Int) (r : Int) (w : World) (h : impl_wrapped.f a0 = some r) :
  Calls Try.prog 115 #[.int .i64 a0] w fun e w' => e = .returned (.int .i64 r) ∧ Drawn0 w w' := by
 unfold impl_wrapped.f at h
 have H := h
 clear h
 obtain rfl := Option.some.inj H
 go_enter Try.func115, Try.ntmps115
 go_wp2
 go_ret
 exact ⟨zJJ, zDD⟩

end Go.Proofs.Ytnjdepmlpdjghaa.PFnAllEnds
