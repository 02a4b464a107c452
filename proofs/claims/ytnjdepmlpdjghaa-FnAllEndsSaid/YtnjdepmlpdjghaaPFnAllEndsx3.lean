-- made by wip/tools/myprint.py out of the seat's translation
import Derived.Test.YtnjdepmlpdjghaaPFnAllEndsx0
import Derived.Test.YtnjdepmlpdjghaaPFnAllEndsx2
namespace Go.Proofs.Ytnjdepmlpdjghaa.PFnAllEnds
open Go.RowKit Go.Proofs.YtnjdepmlpdjghaaW.PrintWords Go.Proofs.YtnjdepmlpdjghaaW.PrintLast Go.Proofs.YtnjdepmlpdjghaaW.PrintMore
attribute [local go_sem] max2_int min2_int max_two min_two max_three min_three max_four min_four   -- for this text's walks alone
set_option linter.unusedVariables false
set_option linter.unusedSimpArgs false
set_option maxHeartbeats 8000000
set_option maxRecDepth 100000

/-! ### spec_Target: function 106 -/
def spec_Target.f (a0_0 : Int) (a0_1 : Int) (a0_2 : Int) (a0_3 : Int) (a0_4 : Int) (l1 : List Int) : Option (Int) := (spec_InsOk.f a0_0 a0_1 a0_2 a0_3 a0_4).bind fun t136 => (if t136 = true then (if (l1.length : Int) = 4 then (if a0_0 = 4 then (if 0 ≤ a0_2 then (if a0_2 < (l1.length : Int) then ((spec_l9Address.f (wrap64 ((rd l1 a0_2) + a0_4))).bind fun t138 => (some t138)) else (none)) else (none)) else (if a0_0 = 5 then (if 0 ≤ a0_2 then (if a0_2 < (l1.length : Int) then ((spec_l9Address.f (wrap64 ((rd l1 a0_2) + a0_4))).bind fun t140 => (some t140)) else (none)) else (none)) else (if a0_0 = 6 then (if 0 ≤ a0_2 then (if a0_2 < (l1.length : Int) then ((spec_l9Address.f (wrap64 ((rd l1 a0_2) + a0_4))).bind fun t142 => (some t142)) else (none)) else (none)) else (some (-1))))) else (some (-1))) else (some (-1)))
theorem spec_Target.calls (a0_0 : Int) (a0_1 : Int) (a0_2 : Int) (a0_3 : Int) (a0_4 : Int) (A1 : Option Addr) (c1 : Nat) (l1 : List Int) (r : Int) (w : World) (hr1 : Kd.C (Kd.int .i64) w A1 l1.length l1) (hc1 : l1.length ≤ c1) (h : spec_Target.f a0_0 a0_1 a0_2 a0_3 a0_4 l1 = some r) :
  Calls Try.prog 106 #[.agg #[.int .i64 a0_0, .int .i64 a0_1, .int .i64 a0_2, .int .i64 a0_3, .int .i64 a0_4], .slice A1 l1.length c1] w fun e w' => e = .returned (.int .i64 r) ∧ Below w.heap.size w w' := by
 have hu59 := Try.underlying59
 have HR1 := zM hr1
 have HC1 := zM hc1
 clear hr1 hc1
 have HB := zM (Below.refl w.heap.size w)
 unfold spec_Target.f at h
 have H := h
 clear h
 replace H := zO H
 obtain ⟨t136, A3, H⟩ := H
 by_cases c4 : t136 = true
 rotate_left
 ·replace c4 := Bool.eq_false_iff.mpr c4
  subst c4
  rw [if_neg zF] at H
  obtain rfl := Option.some.inj H
  go_enter Try.func106, Try.ntmps106
  go_wp2_with (first | ((with_reducible refine gate_dst (N := 2) rfl ?_); (try (refine gate_guard (by rfl) ?_; dsimp only)); (with_reducible refine zBx 2 59 #[.int .i64 a0_0, .int .i64 a0_1, .int .i64 a0_2, .int .i64 a0_3, .int .i64 a0_4] ?_); intro gb135 hg w37 hbox hb; have BK135 := zM hbox; have GW135 := zM (zW hg (below_size zB0)); have GE135 := zM (zW hg (below_size zB0)); replace HB := zM (below_step zB0 hb); clear hb hbox hg; have hcz38 := zc_5 (w := w37) BK135.1) | (go_at_call 124; (with_reducible refine (spec_InsOk.calls a0_0 a0_1 a0_2 a0_3 a0_4 false _ A3.1).mono ?_); rintro e w39 ⟨rfl, hb⟩; replace BK135 := zM (zb BK135.1 hb); replace HB := zM (below_step zB0 hb); clear hb))
  repeat (go_quiet (first | ((with_reducible refine gate_dst (N := 2) rfl ?_); (try (refine gate_guard (by rfl) ?_; dsimp only)); (with_reducible refine zBx 2 59 #[.int .i64 a0_0, .int .i64 a0_1, .int .i64 a0_2, .int .i64 a0_3, .int .i64 a0_4] ?_); intro gb135 hg w37 hbox hb; have BK135 := zM hbox; have GW135 := zM (zW hg (below_size zB0)); have GE135 := zM (zW hg (below_size zB0)); replace HB := zM (below_step zB0 hb); clear hb hbox hg; have hcz38 := zc_5 (w := w37) BK135.1) | (go_at_call 124; (with_reducible refine (spec_InsOk.calls a0_0 a0_1 a0_2 a0_3 a0_4 false _ A3.1).mono ?_); rintro e w39 ⟨rfl, hb⟩; replace BK135 := zM (zb BK135.1 hb); replace HB := zM (below_step zB0 hb); clear hb)); try go_wp2_with (first | ((with_reducible refine gate_dst (N := 2) rfl ?_); (try (refine gate_guard (by rfl) ?_; dsimp only)); (with_reducible refine zBx 2 59 #[.int .i64 a0_0, .int .i64 a0_1, .int .i64 a0_2, .int .i64 a0_3, .int .i64 a0_4] ?_); intro gb135 hg w37 hbox hb; have BK135 := zM hbox; have GW135 := zM (zW hg (below_size zB0)); have GE135 := zM (zW hg (below_size zB0)); replace HB := zM (below_step zB0 hb); clear hb hbox hg; have hcz38 := zc_5 (w := w37) BK135.1) | (go_at_call 124; (with_reducible refine (spec_InsOk.calls a0_0 a0_1 a0_2 a0_3 a0_4 false _ A3.1).mono ?_); rintro e w39 ⟨rfl, hb⟩; replace BK135 := zM (zb BK135.1 hb); replace HB := zM (below_step zB0 hb); clear hb)))
  go_ret
  exact ⟨zE, zB0⟩
 subst c4
 rw [if_pos rfl] at H
 by_cases c5 : (l1.length : Int) = 4
 rotate_left
 ·rw [if_neg c5] at H
  have c5b0 : ((l1.length : Int) == 4) = false := beq_eq_false_iff_ne.mpr c5
  have c5b1 : ((l1.length : Int) != 4) = true := bne_iff_ne.mpr c5
  obtain rfl := Option.some.inj H
  go_enter Try.func106, Try.ntmps106
  go_wp2_with (first | ((with_reducible refine gate_dst (N := 2) rfl ?_); (try (refine gate_guard (by rfl) ?_; dsimp only)); (with_reducible refine zBx 2 59 #[.int .i64 a0_0, .int .i64 a0_1, .int .i64 a0_2, .int .i64 a0_3, .int .i64 a0_4] ?_); intro gb135 hg w34 hbox hb; have BK135 := zM hbox; have GW135 := zM (zW hg (below_size zB0)); have GE135 := zM (zW hg (below_size zB0)); replace HB := zM (below_step zB0 hb); clear hb hbox hg; have hcz35 := zc_5 (w := w34) BK135.1) | (go_at_call 124; (with_reducible refine (spec_InsOk.calls a0_0 a0_1 a0_2 a0_3 a0_4 true _ A3.1).mono ?_); rintro e w36 ⟨rfl, hb⟩; replace BK135 := zM (zb BK135.1 hb); replace HB := zM (below_step zB0 hb); clear hb))
  repeat (go_quiet (first | ((with_reducible refine gate_dst (N := 2) rfl ?_); (try (refine gate_guard (by rfl) ?_; dsimp only)); (with_reducible refine zBx 2 59 #[.int .i64 a0_0, .int .i64 a0_1, .int .i64 a0_2, .int .i64 a0_3, .int .i64 a0_4] ?_); intro gb135 hg w34 hbox hb; have BK135 := zM hbox; have GW135 := zM (zW hg (below_size zB0)); have GE135 := zM (zW hg (below_size zB0)); replace HB := zM (below_step zB0 hb); clear hb hbox hg; have hcz35 := zc_5 (w := w34) BK135.1) | (go_at_call 124; (with_reducible refine (spec_InsOk.calls a0_0 a0_1 a0_2 a0_3 a0_4 true _ A3.1).mono ?_); rintro e w36 ⟨rfl, hb⟩; replace BK135 := zM (zb BK135.1 hb); replace HB := zM (below_step zB0 hb); clear hb)); try go_wp2_with (first | ((with_reducible refine gate_dst (N := 2) rfl ?_); (try (refine gate_guard (by rfl) ?_; dsimp only)); (with_reducible refine zBx 2 59 #[.int .i64 a0_0, .int .i64 a0_1, .int .i64 a0_2, .int .i64 a0_3, .int .i64 a0_4] ?_); intro gb135 hg w34 hbox hb; have BK135 := zM hbox; have GW135 := zM (zW hg (below_size zB0)); have GE135 := zM (zW hg (below_size zB0)); replace HB := zM (below_step zB0 hb); clear hb hbox hg; have hcz35 := zc_5 (w := w34) BK135.1) | (go_at_call 124; (with_reducible refine (spec_InsOk.calls a0_0 a0_1 a0_2 a0_3 a0_4 true _ A3.1).mono ?_); rintro e w36 ⟨rfl, hb⟩; replace BK135 := zM (zb BK135.1 hb); replace HB := zM (below_step zB0 hb); clear hb)))
  go_ret
  exact ⟨zE, zB0⟩
 rw [if_pos c5] at H
 have c5b0 : ((l1.length : Int) == 4) = true := beq_iff_eq.mpr c5
 have c5b1 : ((l1.length : Int) != 4) = false := bne_eq_false_iff_eq.mpr c5
 clear c5
 by_cases c6 : a0_0 = 4
 ·rw [if_pos c6] at H
  have c6b0 : (a0_0 == 4) = true := beq_iff_eq.mpr c6
  have c6b1 : (a0_0 != 4) = false := bne_eq_false_iff_eq.mpr c6
  clear c6
  replace H := zIt H
  obtain ⟨c7b0, H⟩ := H
  replace H := zIt H
  obtain ⟨c8b0, H⟩ := H
  replace H := zO H
  obtain ⟨t138, A9, H⟩ := H
  obtain rfl := Option.some.inj H
  go_enter Try.func106, Try.ntmps106
  go_wp2_with (first | ((with_reducible refine gate_dst (N := 2) rfl ?_); (try (refine gate_guard (by rfl) ?_; dsimp only)); (with_reducible refine zBx 2 59 #[.int .i64 a0_0, .int .i64 a0_1, .int .i64 a0_2, .int .i64 a0_3, .int .i64 a0_4] ?_); intro gb135 hg w10 hbox hb; have BK135 := zM hbox; have GW135 := zM (zW hg (below_size zB0)); have GE135 := zM (zW hg (below_size zB0)); replace HB := zM (below_step zB0 hb); clear hb hbox hg; have hcz11 := zc_5 (w := w10) BK135.1) | (go_at_call 124; (with_reducible refine (spec_InsOk.calls a0_0 a0_1 a0_2 a0_3 a0_4 true _ A3.1).mono ?_); rintro e w12 ⟨rfl, hb⟩; replace BK135 := zM (zb BK135.1 hb); replace HB := zM (below_step zB0 hb); clear hb; have hcz13 := zc_5 (w := w12) BK135.1; obtain ⟨p137, q137, ad137, e137, hx137_0⟩ := zRd (Kd.at_int HR1.1 a0_2); cases e137; replace hx137_0 := zHx HB.1 hx137_0) | (go_at_call 125; (with_reducible refine (spec_l9Address.calls (wrap64 ((rd l1 a0_2) + a0_4)) t138 _ A9.1).mono ?_); rintro e w' ⟨rfl, ⟨nd, rfl⟩⟩; (try first | exact ⟨rfl, _, World.drewN_drewN _ _ _⟩ | exact ⟨rfl, _, Eq.trans (World.drewN_drewN _ _ _) (congrArg (World.drewN _) (Nat.add_assoc _ _ _))⟩)))
  repeat (go_quiet (first | ((with_reducible refine gate_dst (N := 2) rfl ?_); (try (refine gate_guard (by rfl) ?_; dsimp only)); (with_reducible refine zBx 2 59 #[.int .i64 a0_0, .int .i64 a0_1, .int .i64 a0_2, .int .i64 a0_3, .int .i64 a0_4] ?_); intro gb135 hg w10 hbox hb; have BK135 := zM hbox; have GW135 := zM (zW hg (below_size zB0)); have GE135 := zM (zW hg (below_size zB0)); replace HB := zM (below_step zB0 hb); clear hb hbox hg; have hcz11 := zc_5 (w := w10) BK135.1) | (go_at_call 124; (with_reducible refine (spec_InsOk.calls a0_0 a0_1 a0_2 a0_3 a0_4 true _ A3.1).mono ?_); rintro e w12 ⟨rfl, hb⟩; replace BK135 := zM (zb BK135.1 hb); replace HB := zM (below_step zB0 hb); clear hb; have hcz13 := zc_5 (w := w12) BK135.1; obtain ⟨p137, q137, ad137, e137, hx137_0⟩ := zRd (Kd.at_int HR1.1 a0_2); cases e137; replace hx137_0 := zHx HB.1 hx137_0) | (go_at_call 125; (with_reducible refine (spec_l9Address.calls (wrap64 ((rd l1 a0_2) + a0_4)) t138 _ A9.1).mono ?_); rintro e w' ⟨rfl, ⟨nd, rfl⟩⟩; (try first | exact ⟨rfl, _, World.drewN_drewN _ _ _⟩ | exact ⟨rfl, _, Eq.trans (World.drewN_drewN _ _ _) (congrArg (World.drewN _) (Nat.add_assoc _ _ _))⟩))); try go_wp2_with (first | ((with_reducible refine gate_dst (N := 2) rfl ?_); (try (refine gate_guard (by rfl) ?_; dsimp only)); (with_reducible refine zBx 2 59 #[.int .i64 a0_0, .int .i64 a0_1, .int .i64 a0_2, .int .i64 a0_3, .int .i64 a0_4] ?_); intro gb135 hg w10 hbox hb; have BK135 := zM hbox; have GW135 := zM (zW hg (below_size zB0)); have GE135 := zM (zW hg (below_size zB0)); replace HB := zM (below_step zB0 hb); clear hb hbox hg; have hcz11 := zc_5 (w := w10) BK135.1) | (go_at_call 124; (with_reducible refine (spec_InsOk.calls a0_0 a0_1 a0_2 a0_3 a0_4 true _ A3.1).mono ?_); rintro e w12 ⟨rfl, hb⟩; replace BK135 := zM (zb BK135.1 hb); replace HB := zM (below_step zB0 hb); clear hb; have hcz13 := zc_5 (w := w12) BK135.1; obtain ⟨p137, q137, ad137, e137, hx137_0⟩ := zRd (Kd.at_int HR1.1 a0_2); cases e137; replace hx137_0 := zHx HB.1 hx137_0) | (go_at_call 125; (with_reducible refine (spec_l9Address.calls (wrap64 ((rd l1 a0_2) + a0_4)) t138 _ A9.1).mono ?_); rintro e w' ⟨rfl, ⟨nd, rfl⟩⟩; (try first | exact ⟨rfl, _, World.drewN_drewN _ _ _⟩ | exact ⟨rfl, _, Eq.trans (World.drewN_drewN _ _ _) (congrArg (World.drewN _) (Nat.add_assoc _ _ _))⟩))))
  go_ret
  exact ⟨zE, zB0⟩
 rw [if_neg c6] at H
 have c6b0 : (a0_0 == 4) = false := beq_eq_false_iff_ne.mpr c6
 have c6b1 : (a0_0 != 4) = true := bne_iff_ne.mpr c6
 by_cases c14 : a0_0 = 5
 ·rw [if_pos c14] at H
  have c14b0 : (a0_0 == 5) = true := beq_iff_eq.mpr c14
  have c14b1 : (a0_0 != 5) = false := bne_eq_false_iff_eq.mpr c14
  clear c14
  replace H := zIt H
  obtain ⟨c15b0, H⟩ := H
  replace H := zIt H
  obtain ⟨c16b0, H⟩ := H
  replace H := zO H
  obtain ⟨t140, A17, H⟩ := H
  obtain rfl := Option.some.inj H
  go_enter Try.func106, Try.ntmps106
  go_wp2_with (first | ((with_reducible refine gate_dst (N := 2) rfl ?_); (try (refine gate_guard (by rfl) ?_; dsimp only)); (with_reducible refine zBx 2 59 #[.int .i64 a0_0, .int .i64 a0_1, .int .i64 a0_2, .int .i64 a0_3, .int .i64 a0_4] ?_); intro gb135 hg w18 hbox hb; have BK135 := zM hbox; have GW135 := zM (zW hg (below_size zB0)); have GE135 := zM (zW hg (below_size zB0)); replace HB := zM (below_step zB0 hb); clear hb hbox hg; have hcz19 := zc_5 (w := w18) BK135.1) | (go_at_call 124; (with_reducible refine (spec_InsOk.calls a0_0 a0_1 a0_2 a0_3 a0_4 true _ A3.1).mono ?_); rintro e w20 ⟨rfl, hb⟩; replace BK135 := zM (zb BK135.1 hb); replace HB := zM (below_step zB0 hb); clear hb; have hcz21 := zc_5 (w := w20) BK135.1; obtain ⟨p139, q139, ad139, e139, hx139_0⟩ := zRd (Kd.at_int HR1.1 a0_2); cases e139; replace hx139_0 := zHx HB.1 hx139_0) | (go_at_call 125; (with_reducible refine (spec_l9Address.calls (wrap64 ((rd l1 a0_2) + a0_4)) t140 _ A17.1).mono ?_); rintro e w' ⟨rfl, ⟨nd, rfl⟩⟩; (try first | exact ⟨rfl, _, World.drewN_drewN _ _ _⟩ | exact ⟨rfl, _, Eq.trans (World.drewN_drewN _ _ _) (congrArg (World.drewN _) (Nat.add_assoc _ _ _))⟩)))
  repeat (go_quiet (first | ((with_reducible refine gate_dst (N := 2) rfl ?_); (try (refine gate_guard (by rfl) ?_; dsimp only)); (with_reducible refine zBx 2 59 #[.int .i64 a0_0, .int .i64 a0_1, .int .i64 a0_2, .int .i64 a0_3, .int .i64 a0_4] ?_); intro gb135 hg w18 hbox hb; have BK135 := zM hbox; have GW135 := zM (zW hg (below_size zB0)); have GE135 := zM (zW hg (below_size zB0)); replace HB := zM (below_step zB0 hb); clear hb hbox hg; have hcz19 := zc_5 (w := w18) BK135.1) | (go_at_call 124; (with_reducible refine (spec_InsOk.calls a0_0 a0_1 a0_2 a0_3 a0_4 true _ A3.1).mono ?_); rintro e w20 ⟨rfl, hb⟩; replace BK135 := zM (zb BK135.1 hb); replace HB := zM (below_step zB0 hb); clear hb; have hcz21 := zc_5 (w := w20) BK135.1; obtain ⟨p139, q139, ad139, e139, hx139_0⟩ := zRd (Kd.at_int HR1.1 a0_2); cases e139; replace hx139_0 := zHx HB.1 hx139_0) | (go_at_call 125; (with_reducible refine (spec_l9Address.calls (wrap64 ((rd l1 a0_2) + a0_4)) t140 _ A17.1).mono ?_); rintro e w' ⟨rfl, ⟨nd, rfl⟩⟩; (try first | exact ⟨rfl, _, World.drewN_drewN _ _ _⟩ | exact ⟨rfl, _, Eq.trans (World.drewN_drewN _ _ _) (congrArg (World.drewN _) (Nat.add_assoc _ _ _))⟩))); try go_wp2_with (first | ((with_reducible refine gate_dst (N := 2) rfl ?_); (try (refine gate_guard (by rfl) ?_; dsimp only)); (with_reducible refine zBx 2 59 #[.int .i64 a0_0, .int .i64 a0_1, .int .i64 a0_2, .int .i64 a0_3, .int .i64 a0_4] ?_); intro gb135 hg w18 hbox hb; have BK135 := zM hbox; have GW135 := zM (zW hg (below_size zB0)); have GE135 := zM (zW hg (below_size zB0)); replace HB := zM (below_step zB0 hb); clear hb hbox hg; have hcz19 := zc_5 (w := w18) BK135.1) | (go_at_call 124; (with_reducible refine (spec_InsOk.calls a0_0 a0_1 a0_2 a0_3 a0_4 true _ A3.1).mono ?_); rintro e w20 ⟨rfl, hb⟩; replace BK135 := zM (zb BK135.1 hb); replace HB := zM (below_step zB0 hb); clear hb; have hcz21 := zc_5 (w := w20) BK135.1; obtain ⟨p139, q139, ad139, e139, hx139_0⟩ := zRd (Kd.at_int HR1.1 a0_2); cases e139; replace hx139_0 := zHx HB.1 hx139_0) | (go_at_call 125; (with_reducible refine (spec_l9Address.calls (wrap64 ((rd l1 a0_2) + a0_4)) t140 _ A17.1).mono ?_); rintro e w' ⟨rfl, ⟨nd, rfl⟩⟩; (try first | exact ⟨rfl, _, World.drewN_drewN _ _ _⟩ | exact ⟨rfl, _, Eq.trans (World.drewN_drewN _ _ _) (congrArg (World.drewN _) (Nat.add_assoc _ _ _))⟩))))
  go_ret
  exact ⟨zE, zB0⟩
 rw [if_neg c14] at H
 have c14b0 : (a0_0 == 5) = false := beq_eq_false_iff_ne.mpr c14
 have c14b1 : (a0_0 != 5) = true := bne_iff_ne.mpr c14
 by_cases c22 : a0_0 = 6
 rotate_left
 ·rw [if_neg c22] at H
  have c22b0 : (a0_0 == 6) = false := beq_eq_false_iff_ne.mpr c22
  have c22b1 : (a0_0 != 6) = true := bne_iff_ne.mpr c22
  obtain rfl := Option.some.inj H
  go_enter Try.func106, Try.ntmps106
  go_wp2_with (first | ((with_reducible refine gate_dst (N := 2) rfl ?_); (try (refine gate_guard (by rfl) ?_; dsimp only)); (with_reducible refine zBx 2 59 #[.int .i64 a0_0, .int .i64 a0_1, .int .i64 a0_2, .int .i64 a0_3, .int .i64 a0_4] ?_); intro gb135 hg w30 hbox hb; have BK135 := zM hbox; have GW135 := zM (zW hg (below_size zB0)); have GE135 := zM (zW hg (below_size zB0)); replace HB := zM (below_step zB0 hb); clear hb hbox hg; have hcz31 := zc_5 (w := w30) BK135.1) | (go_at_call 124; (with_reducible refine (spec_InsOk.calls a0_0 a0_1 a0_2 a0_3 a0_4 true _ A3.1).mono ?_); rintro e w32 ⟨rfl, hb⟩; replace BK135 := zM (zb BK135.1 hb); replace HB := zM (below_step zB0 hb); clear hb; have hcz33 := zc_5 (w := w32) BK135.1))
  repeat (go_quiet (first | ((with_reducible refine gate_dst (N := 2) rfl ?_); (try (refine gate_guard (by rfl) ?_; dsimp only)); (with_reducible refine zBx 2 59 #[.int .i64 a0_0, .int .i64 a0_1, .int .i64 a0_2, .int .i64 a0_3, .int .i64 a0_4] ?_); intro gb135 hg w30 hbox hb; have BK135 := zM hbox; have GW135 := zM (zW hg (below_size zB0)); have GE135 := zM (zW hg (below_size zB0)); replace HB := zM (below_step zB0 hb); clear hb hbox hg; have hcz31 := zc_5 (w := w30) BK135.1) | (go_at_call 124; (with_reducible refine (spec_InsOk.calls a0_0 a0_1 a0_2 a0_3 a0_4 true _ A3.1).mono ?_); rintro e w32 ⟨rfl, hb⟩; replace BK135 := zM (zb BK135.1 hb); replace HB := zM (below_step zB0 hb); clear hb; have hcz33 := zc_5 (w := w32) BK135.1)); try go_wp2_with (first | ((with_reducible refine gate_dst (N := 2) rfl ?_); (try (refine gate_guard (by rfl) ?_; dsimp only)); (with_reducible refine zBx 2 59 #[.int .i64 a0_0, .int .i64 a0_1, .int .i64 a0_2, .int .i64 a0_3, .int .i64 a0_4] ?_); intro gb135 hg w30 hbox hb; have BK135 := zM hbox; have GW135 := zM (zW hg (below_size zB0)); have GE135 := zM (zW hg (below_size zB0)); replace HB := zM (below_step zB0 hb); clear hb hbox hg; have hcz31 := zc_5 (w := w30) BK135.1) | (go_at_call 124; (with_reducible refine (spec_InsOk.calls a0_0 a0_1 a0_2 a0_3 a0_4 true _ A3.1).mono ?_); rintro e w32 ⟨rfl, hb⟩; replace BK135 := zM (zb BK135.1 hb); replace HB := zM (below_step zB0 hb); clear hb; have hcz33 := zc_5 (w := w32) BK135.1)))
  go_ret
  exact ⟨zE, zB0⟩
 rw [if_pos c22] at H
 have c22b0 : (a0_0 == 6) = true := beq_iff_eq.mpr c22
 have c22b1 : (a0_0 != 6) = false := bne_eq_false_iff_eq.mpr c22
 clear c22
 replace H := zIt H
 obtain ⟨c23b0, H⟩ := H
 replace H := zIt H
 obtain ⟨c24b0, H⟩ := H
 replace H := zO H
 obtain ⟨t142, A25, H⟩ := H
 obtain rfl := Option.some.inj H
 go_enter Try.func106, Try.ntmps106
 go_wp2_with (first | ((with_reducible refine gate_dst (N := 2) rfl ?_); (try (refine gate_guard (by rfl) ?_; dsimp only)); (with_reducible refine zBx 2 59 #[.int .i64 a0_0, .int .i64 a0_1, .int .i64 a0_2, .int .i64 a0_3, .int .i64 a0_4] ?_); intro gb135 hg w26 hbox hb; have BK135 := zM hbox; have GW135 := zM (zW hg (below_size zB0)); have GE135 := zM (zW hg (below_size zB0)); replace HB := zM (below_step zB0 hb); clear hb hbox hg; have hcz27 := zc_5 (w := w26) BK135.1) | (go_at_call 124; (with_reducible refine (spec_InsOk.calls a0_0 a0_1 a0_2 a0_3 a0_4 true _ A3.1).mono ?_); rintro e w28 ⟨rfl, hb⟩; replace BK135 := zM (zb BK135.1 hb); replace HB := zM (below_step zB0 hb); clear hb; have hcz29 := zc_5 (w := w28) BK135.1; obtain ⟨p141, q141, ad141, e141, hx141_0⟩ := zRd (Kd.at_int HR1.1 a0_2); cases e141; replace hx141_0 := zHx HB.1 hx141_0) | (go_at_call 125; (with_reducible refine (spec_l9Address.calls (wrap64 ((rd l1 a0_2) + a0_4)) t142 _ A25.1).mono ?_); rintro e w' ⟨rfl, ⟨nd, rfl⟩⟩; (try first | exact ⟨rfl, _, World.drewN_drewN _ _ _⟩ | exact ⟨rfl, _, Eq.trans (World.drewN_drewN _ _ _) (congrArg (World.drewN _) (Nat.add_assoc _ _ _))⟩)))
 repeat (go_quiet (first | ((with_reducible refine gate_dst (N := 2) rfl ?_); (try (refine gate_guard (by rfl) ?_; dsimp only)); (with_reducible refine zBx 2 59 #[.int .i64 a0_0, .int .i64 a0_1, .int .i64 a0_2, .int .i64 a0_3, .int .i64 a0_4] ?_); intro gb135 hg w26 hbox hb; have BK135 := zM hbox; have GW135 := zM (zW hg (below_size zB0)); have GE135 := zM (zW hg (below_size zB0)); replace HB := zM (below_step zB0 hb); clear hb hbox hg; have hcz27 := zc_5 (w := w26) BK135.1) | (go_at_call 124; (with_reducible refine (spec_InsOk.calls a0_0 a0_1 a0_2 a0_3 a0_4 true _ A3.1).mono ?_); rintro e w28 ⟨rfl, hb⟩; replace BK135 := zM (zb BK135.1 hb); replace HB := zM (below_step zB0 hb); clear hb; have hcz29 := zc_5 (w := w28) BK135.1; obtain ⟨p141, q141, ad141, e141, hx141_0⟩ := zRd (Kd.at_int HR1.1 a0_2); cases e141; replace hx141_0 := zHx HB.1 hx141_0) | (go_at_call 125; (with_reducible refine (spec_l9Address.calls (wrap64 ((rd l1 a0_2) + a0_4)) t142 _ A25.1).mono ?_); rintro e w' ⟨rfl, ⟨nd, rfl⟩⟩; (try first | exact ⟨rfl, _, World.drewN_drewN _ _ _⟩ | exact ⟨rfl, _, Eq.trans (World.drewN_drewN _ _ _) (congrArg (World.drewN _) (Nat.add_assoc _ _ _))⟩))); try go_wp2_with (first | ((with_reducible refine gate_dst (N := 2) rfl ?_); (try (refine gate_guard (by rfl) ?_; dsimp only)); (with_reducible refine zBx 2 59 #[.int .i64 a0_0, .int .i64 a0_1, .int .i64 a0_2, .int .i64 a0_3, .int .i64 a0_4] ?_); intro gb135 hg w26 hbox hb; have BK135 := zM hbox; have GW135 := zM (zW hg (below_size zB0)); have GE135 := zM (zW hg (below_size zB0)); replace HB := zM (below_step zB0 hb); clear hb hbox hg; have hcz27 := zc_5 (w := w26) BK135.1) | (go_at_call 124; (with_reducible refine (spec_InsOk.calls a0_0 a0_1 a0_2 a0_3 a0_4 true _ A3.1).mono ?_); rintro e w28 ⟨rfl, hb⟩; replace BK135 := zM (zb BK135.1 hb); replace HB := zM (below_step zB0 hb); clear hb; have hcz29 := zc_5 (w := w28) BK135.1; obtain ⟨p141, q141, ad141, e141, hx141_0⟩ := zRd (Kd.at_int HR1.1 a0_2); cases e141; replace hx141_0 := zHx HB.1 hx141_0) | (go_at_call 125; (with_reducible refine (spec_l9Address.calls (wrap64 ((rd l1 a0_2) + a0_4)) t142 _ A25.1).mono ?_); rintro e w' ⟨rfl, ⟨nd, rfl⟩⟩; (try first | exact ⟨rfl, _, World.drewN_drewN _ _ _⟩ | exact ⟨rfl, _, Eq.trans (World.drewN_drewN _ _ _) (congrArg (World.drewN _) (Nat.add_assoc _ _ _))⟩))))
 go_ret
 exact ⟨zE, zB0⟩

/-! ### spec_l9Word: function 126 -/
def spec_l9Word.f (a0 : Int) : Option (Int) := some (Go.bits .and .i64 a0 65535)
theorem spec_l9Word.calls (a0 : Int) (r : Int) (w : World) (h : spec_l9Word.f a0 = some r) :
  Calls Try.prog 126 #[.int .i64 a0] w fun e w' => e = .returned (.int .i64 r) ∧ Drawn0 w w' := by
 unfold spec_l9Word.f at h
 have H := h
 clear h
 obtain rfl := Option.some.inj H
 go_enter Try.func126, Try.ntmps126
 go_wp2
 go_ret
 exact ⟨zJJ, zDD⟩

end Go.Proofs.Ytnjdepmlpdjghaa.PFnAllEnds
