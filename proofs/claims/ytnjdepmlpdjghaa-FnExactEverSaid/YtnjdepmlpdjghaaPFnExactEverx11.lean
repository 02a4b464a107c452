-- made by wip/tools/myprint.py out of the seat's translation
import Derived.Test.YtnjdepmlpdjghaaPFnExactEverx0
import Derived.Test.YtnjdepmlpdjghaaPFnExactEverx10
namespace Go.Proofs.Ytnjdepmlpdjghaa.PFnExactEver
open Go.RowKit Go.Proofs.YtnjdepmlpdjghaaW.PrintWords Go.Proofs.YtnjdepmlpdjghaaW.PrintLast Go.Proofs.YtnjdepmlpdjghaaW.PrintMore
attribute [local go_sem] max2_int min2_int max_two min_two max_three min_three max_four min_four   -- for this text's walks alone
set_option linter.unusedVariables false
set_option linter.unusedSimpArgs false
set_option maxHeartbeats 8000000
set_option maxRecDepth 100000

/-! ### spec_Decode: function 105 -/
def spec_Decode.f (a0 : Int) : Option (Int × Int × Int × Int × Int × Bool) := (spec_l1In.f a0 0 65535).bind fun t314 => (if t314 = true then ((spec_InsOk.f (Int.tmod a0 16) (Int.tmod (wrap64 (Int.tdiv a0 16)) 4) (Int.tmod (wrap64 (Int.tdiv a0 64)) 4) (Int.tmod (wrap64 (Int.tdiv a0 256)) 4) (wrap64 (Int.tdiv a0 1024))).bind fun t316 => (if t316 = true then (some (Int.tmod a0 16, Int.tmod (wrap64 (Int.tdiv a0 16)) 4, Int.tmod (wrap64 (Int.tdiv a0 64)) 4, Int.tmod (wrap64 (Int.tdiv a0 256)) 4, wrap64 (Int.tdiv a0 1024), true)) else (some (0, 0, 0, 0, 0, false)))) else (some (0, 0, 0, 0, 0, false)))
theorem spec_Decode.calls (a0 : Int) (r1 : Int) (r2 : Int) (r3 : Int) (r4 : Int) (r5 : Int) (r6 : Bool) (w : World) (h : spec_Decode.f a0 = some (r1, r2, r3, r4, r5, r6)) :
  Calls Try.prog 105 #[.int .i64 a0] w fun e w' => e = .returned (.tuple #[.agg #[.int .i64 r1, .int .i64 r2, .int .i64 r3, .int .i64 r4, .int .i64 r5], .bool r6]) ∧ Below w.heap.size w w' := by
 have hu59 := Try.underlying59
 have HB := zM (Below.refl w.heap.size w)
 unfold spec_Decode.f at h
 have H := h
 clear h
 replace H := zO H
 obtain ⟨t314, A2, H⟩ := H
 by_cases c3 : t314 = true
 rotate_left
 ·replace c3 := Bool.eq_false_iff.mpr c3
  subst c3
  rw [if_neg zF] at H
  simp only [Option.some.injEq, Prod.mk.injEq] at H
  obtain ⟨rfl, rfl, rfl, rfl, rfl, rfl⟩ := H
  go_enter Try.func105, Try.ntmps105
  go_wp2_with (first | ((with_reducible refine gate_dst (N := 2) rfl ?_); refine box_event ?hg (N := 2) ?hd (cs := #[.int .i64 0, .int .i64 0, .int .i64 0, .int .i64 0, .int .i64 0]) (t := 59) ?hr ?_; (case hd => rfl); (case hg => rfl); (case hr => exact zHH); intro gb313 hg w19 hbox hb; have BK313 := zM hbox; have GW313 := zM (zW hg (below_size zB0)); have GE313 := zM (zW hg (below_size zB0)); replace HB := zM (below_step zB0 hb); clear hb hbox hg) | ((with_reducible refine gate_callee (f := 49) rfl ?_); refine goesL_ (some 6) rfl rfl Try.func49 (by kernel_rfl) rfl #[.int .i64 a0, .int .i64 0, .int .i64 65535] rfl zT ?_; (with_reducible refine (spec_l1In.calls a0 0 65535 false _ A2.1).mono ?_); rintro e w' ⟨rfl, ⟨nd, rfl⟩⟩; refine ⟨_, rfl, ?_⟩; (try (rw [drewN_self w19]; generalize hq_ : World.drewN w19 _ = w19; have n0_ : Aside0 (w19.heap[gb313]? = some (.cells #[.int .i64 0, .int .i64 0, .int .i64 0, .int .i64 0, .int .i64 0] 59 (0, 0))) := ⟨by rw [← hq_]; exact (zK BK313.1)⟩; have n1_ : Aside0 (Below w.heap.size w w19) := ⟨by rw [← hq_]; exact zB35⟩; clear BK313 HB hq_; have BK313 := n0_; have HB := n1_; clear n0_ n1_)); have hcz20 := zc_5 (w := w19) BK313.1))
  refine bodyPost_ret (results_ct rfl _ _ gb313 59 #[.int .i64 0, .int .i64 0, .int .i64 0, .int .i64 0, .int .i64 0] (0, 0) _ rfl (by exact zp5 (zK BK313.1)) Try.underlying59 rfl (by kernel_rfl)) rfl ?_
  exact ⟨zE, zB35⟩
 subst c3
 rw [if_pos rfl] at H
 replace H := zO H
 obtain ⟨t316, A4, H⟩ := H
 by_cases c5 : t316 = true
 rotate_left
 ·replace c5 := Bool.eq_false_iff.mpr c5
  subst c5
  rw [if_neg zF] at H
  simp only [Option.some.injEq, Prod.mk.injEq] at H
  obtain ⟨rfl, rfl, rfl, rfl, rfl, rfl⟩ := H
  go_enter Try.func105, Try.ntmps105
  go_wp2_with (first | ((with_reducible refine gate_dst (N := 2) rfl ?_); refine box_event ?hg (N := 2) ?hd (cs := #[.int .i64 0, .int .i64 0, .int .i64 0, .int .i64 0, .int .i64 0]) (t := 59) ?hr ?_; (case hd => rfl); (case hg => rfl); (case hr => exact zHH); intro gb313 hg w13 hbox hb; have BK313 := zM hbox; have GW313 := zM (zW hg (below_size zB0)); have GE313 := zM (zW hg (below_size zB0)); replace HB := zM (below_step zB0 hb); clear hb hbox hg) | ((with_reducible refine gate_callee (f := 49) rfl ?_); refine goesL_ (some 6) rfl rfl Try.func49 (by kernel_rfl) rfl #[.int .i64 a0, .int .i64 0, .int .i64 65535] rfl zT ?_; (with_reducible refine (spec_l1In.calls a0 0 65535 true _ A2.1).mono ?_); rintro e w' ⟨rfl, ⟨nd, rfl⟩⟩; refine ⟨_, rfl, ?_⟩; (try (rw [drewN_self w13]; generalize hq_ : World.drewN w13 _ = w13; have n0_ : Aside0 (w13.heap[gb313]? = some (.cells #[.int .i64 0, .int .i64 0, .int .i64 0, .int .i64 0, .int .i64 0] 59 (0, 0))) := ⟨by rw [← hq_]; exact (zK BK313.1)⟩; have n1_ : Aside0 (Below w.heap.size w w13) := ⟨by rw [← hq_]; exact zB35⟩; clear BK313 HB hq_; have BK313 := n0_; have HB := n1_; clear n0_ n1_))) | ((with_reducible refine gate_dst (N := 4) rfl ?_); refine box_event ?hg (N := 4) ?hd (cs := #[.int .i64 0, .int .i64 0, .int .i64 0, .int .i64 0, .int .i64 0]) (t := 59) ?hr ?_; (case hd => rfl); (case hg => rfl); (case hr => exact zHH); intro gb315 hg w14 hbox hb; have BK315 := zM hbox; have GW315 := zM (zW hg (below_size zB35)); have GE315 := zM (zW hg (below_size zB35)); replace HB := zM (below_step zB35 hb); have NB313_315 := zM ((zn BK313.1 hg : gb313 ≠ gb315)); have NB315_313 := zM ((zm BK313.1 hg : gb315 ≠ gb313)); replace BK313 := zM (zb BK313.1 hb); clear hb hbox hg; have hnb15 := NB315_313.1; have hnc15 := NB313_315.1; have hcz16 := zc_5 (w := w14) BK315.1) | ((with_reducible refine gate_callee (f := 124) rfl ?_); refine goesL_ (some 24) rfl rfl Try.func124 (by kernel_rfl) rfl #[.agg #[.int .i64 (Int.tmod a0 16), .int .i64 (Int.tmod (wrap64 (Int.tdiv a0 16)) 4), .int .i64 (Int.tmod (wrap64 (Int.tdiv a0 64)) 4), .int .i64 (Int.tmod (wrap64 (Int.tdiv a0 256)) 4), .int .i64 (wrap64 (Int.tdiv a0 1024))]] rfl zT ?_; (with_reducible refine (spec_InsOk.calls (Int.tmod a0 16) (Int.tmod (wrap64 (Int.tdiv a0 16)) 4) (Int.tmod (wrap64 (Int.tdiv a0 64)) 4) (Int.tmod (wrap64 (Int.tdiv a0 256)) 4) (wrap64 (Int.tdiv a0 1024)) false _ A4.1).mono ?_); rintro e w17 ⟨rfl, hb⟩; refine ⟨_, rfl, ?_⟩; replace BK313 := zM (zf BK313.1 hb); replace BK315 := zM (blk_below (g := gb315) (o := .cells #[.int .i64 (Int.tmod a0 16), .int .i64 (Int.tmod (wrap64 (Int.tdiv a0 16)) 4), .int .i64 (Int.tmod (wrap64 (Int.tdiv a0 64)) 4), .int .i64 (Int.tmod (wrap64 (Int.tdiv a0 256)) 4), .int .i64 (wrap64 (Int.tdiv a0 1024))] 59 (0, 0)) (by exact zp5 (zK BK315.1)) hb); replace HB := zM (below_step zB36 hb); clear hb; have hcz18 := zc_5 (w := w17) BK313.1))
  refine bodyPost_ret (results_ct rfl _ _ gb313 59 #[.int .i64 0, .int .i64 0, .int .i64 0, .int .i64 0, .int .i64 0] (0, 0) _ rfl (by exact zp5 (zK BK313.1)) Try.underlying59 rfl (by kernel_rfl)) rfl ?_
  exact ⟨zE, zB36⟩
 subst c5
 rw [if_pos rfl] at H
 simp only [Option.some.injEq, Prod.mk.injEq] at H
 obtain ⟨rfl, rfl, rfl, rfl, rfl, rfl⟩ := H
 go_enter Try.func105, Try.ntmps105
 go_wp2_with (first | ((with_reducible refine gate_dst (N := 2) rfl ?_); refine box_event ?hg (N := 2) ?hd (cs := #[.int .i64 0, .int .i64 0, .int .i64 0, .int .i64 0, .int .i64 0]) (t := 59) ?hr ?_; (case hd => rfl); (case hg => rfl); (case hr => exact zHH); intro gb313 hg w6 hbox hb; have BK313 := zM hbox; have GW313 := zM (zW hg (below_size zB0)); have GE313 := zM (zW hg (below_size zB0)); replace HB := zM (below_step zB0 hb); clear hb hbox hg) | ((with_reducible refine gate_callee (f := 49) rfl ?_); refine goesL_ (some 6) rfl rfl Try.func49 (by kernel_rfl) rfl #[.int .i64 a0, .int .i64 0, .int .i64 65535] rfl zT ?_; (with_reducible refine (spec_l1In.calls a0 0 65535 true _ A2.1).mono ?_); rintro e w' ⟨rfl, ⟨nd, rfl⟩⟩; refine ⟨_, rfl, ?_⟩; (try (rw [drewN_self w6]; generalize hq_ : World.drewN w6 _ = w6; have n0_ : Aside0 (w6.heap[gb313]? = some (.cells #[.int .i64 0, .int .i64 0, .int .i64 0, .int .i64 0, .int .i64 0] 59 (0, 0))) := ⟨by rw [← hq_]; exact (zK BK313.1)⟩; have n1_ : Aside0 (Below w.heap.size w w6) := ⟨by rw [← hq_]; exact zB35⟩; clear BK313 HB hq_; have BK313 := n0_; have HB := n1_; clear n0_ n1_))) | ((with_reducible refine gate_dst (N := 4) rfl ?_); refine box_event ?hg (N := 4) ?hd (cs := #[.int .i64 0, .int .i64 0, .int .i64 0, .int .i64 0, .int .i64 0]) (t := 59) ?hr ?_; (case hd => rfl); (case hg => rfl); (case hr => exact zHH); intro gb315 hg w7 hbox hb; have BK315 := zM hbox; have GW315 := zM (zW hg (below_size zB35)); have GE315 := zM (zW hg (below_size zB35)); replace HB := zM (below_step zB35 hb); have NB313_315 := zM ((zn BK313.1 hg : gb313 ≠ gb315)); have NB315_313 := zM ((zm BK313.1 hg : gb315 ≠ gb313)); replace BK313 := zM (zb BK313.1 hb); clear hb hbox hg; have hnb8 := NB315_313.1; have hnc8 := NB313_315.1; have hcz9 := zc_5 (w := w7) BK315.1) | ((with_reducible refine gate_callee (f := 124) rfl ?_); refine goesL_ (some 24) rfl rfl Try.func124 (by kernel_rfl) rfl #[.agg #[.int .i64 (Int.tmod a0 16), .int .i64 (Int.tmod (wrap64 (Int.tdiv a0 16)) 4), .int .i64 (Int.tmod (wrap64 (Int.tdiv a0 64)) 4), .int .i64 (Int.tmod (wrap64 (Int.tdiv a0 256)) 4), .int .i64 (wrap64 (Int.tdiv a0 1024))]] rfl zT ?_; (with_reducible refine (spec_InsOk.calls (Int.tmod a0 16) (Int.tmod (wrap64 (Int.tdiv a0 16)) 4) (Int.tmod (wrap64 (Int.tdiv a0 64)) 4) (Int.tmod (wrap64 (Int.tdiv a0 256)) 4) (wrap64 (Int.tdiv a0 1024)) true _ A4.1).mono ?_); rintro e w10 ⟨rfl, hb⟩; refine ⟨_, rfl, ?_⟩; replace BK313 := zM (zf BK313.1 hb); replace BK315 := zM (blk_below (g := gb315) (o := .cells #[.int .i64 (Int.tmod a0 16), .int .i64 (Int.tmod (wrap64 (Int.tdiv a0 16)) 4), .int .i64 (Int.tmod (wrap64 (Int.tdiv a0 64)) 4), .int .i64 (Int.tmod (wrap64 (Int.tdiv a0 256)) 4), .int .i64 (wrap64 (Int.tdiv a0 1024))] 59 (0, 0)) (by exact zp5 (zK BK315.1)) hb); replace HB := zM (below_step zB36 hb); clear hb; have hcz11 := zc_5 (w := w10) BK315.1; have hcz12 := zc_5 (w := w10) BK313.1))
 refine bodyPost_ret (results_ct rfl _ _ gb313 59 #[.int .i64 (Int.tmod a0 16), .int .i64 (Int.tmod (wrap64 (Int.tdiv a0 16)) 4), .int .i64 (Int.tmod (wrap64 (Int.tdiv a0 64)) 4), .int .i64 (Int.tmod (wrap64 (Int.tdiv a0 256)) 4), .int .i64 (wrap64 (Int.tdiv a0 1024))] (0, 0) _ rfl (by exact zp5 (zK BK313.1)) Try.underlying59 rfl (by kernel_rfl)) rfl ?_
 exact ⟨zE, zB36⟩

/-! ### spec_l9Address: function 125 -/
def spec_l9Address.f (a0 : Int) : Option (Int) := if (Int.tmod a0 24) < 0 then (some (wrap64 ((Int.tmod a0 24) + 24))) else (some (Int.tmod a0 24))
theorem spec_l9Address.calls (a0 : Int) (r : Int) (w : World) (h : spec_l9Address.f a0 = some r) :
  Calls Try.prog 125 #[.int .i64 a0] w fun e w' => e = .returned (.int .i64 r) ∧ Drawn0 w w' := by
 unfold spec_l9Address.f at h
 have H := h
 clear h
 by_cases c2 : (Int.tmod a0 24) < 0
 ·rw [if_pos c2] at H
  have c2b0 := decide_eq_true c2
  clear c2
  obtain rfl := Option.some.inj H
  go_enter Try.func125, Try.ntmps125
  go_wp2
  go_ret
  exact ⟨zJJ, zDD⟩
 rw [if_neg c2] at H
 have c2b0 := decide_eq_false c2
 clear c2
 obtain rfl := Option.some.inj H
 go_enter Try.func125, Try.ntmps125
 go_wp2
 go_ret
 exact ⟨zJJ, zDD⟩

/-! ### spec_Target: function 106 -/
def spec_Target.f (a0_0 : Int) (a0_1 : Int) (a0_2 : Int) (a0_3 : Int) (a0_4 : Int) (l1 : List Int) : Option (Int) := (spec_InsOk.f a0_0 a0_1 a0_2 a0_3 a0_4).bind fun t318 => (if t318 = true then (if (l1.length : Int) = 4 then (if a0_0 = 4 then (if 0 ≤ a0_2 then (if a0_2 < (l1.length : Int) then ((spec_l9Address.f (wrap64 ((rd l1 a0_2) + a0_4))).bind fun t320 => (some t320)) else (none)) else (none)) else (if a0_0 = 5 then (if 0 ≤ a0_2 then (if a0_2 < (l1.length : Int) then ((spec_l9Address.f (wrap64 ((rd l1 a0_2) + a0_4))).bind fun t322 => (some t322)) else (none)) else (none)) else (if a0_0 = 6 then (if 0 ≤ a0_2 then (if a0_2 < (l1.length : Int) then ((spec_l9Address.f (wrap64 ((rd l1 a0_2) + a0_4))).bind fun t324 => (some t324)) else (none)) else (none)) else (some (-1))))) else (some (-1))) else (some (-1)))
theorem spec_Target.calls (a0_0 : Int) (a0_1 : Int) (a0_2 : Int) (a0_3 : Int) (a0_4 : Int) (A1 : Option Addr) (c1 : Nat) (l1 : List Int) (r : Int) (w : World) (hr1 : Kd.C (Kd.int .i64) w A1 l1.length l1) (hc1 : l1.length ≤ c1) (h : spec_Target.f a0_0 a0_1 a0_2 a0_3 a0_4 l1 = some r) :
  Calls Try.prog 106 #[.agg #[.int .i64 a0_0, .int .i64 a0_1, .int .i64 a0_2, .int .i64 a0_3, .int .i64 a0_4], .slice A1 l1.length c1] w fun e w' => e = .returned (.int .i64 r) ∧ Below w.heap.size w w' := by
 have hu59 := Try.underlying59
 have HR1 := zM hr1
 have HC1 := zM hc1
 clear hr1 hc1
 have HB := zM (Below.refl w.heap.size w)
 unfold spec_Target.f at h
 have H := h
 clear h
 replace H := zO H
 obtain ⟨t318, A3, H⟩ := H
 by_cases c4 : t318 = true
 rotate_left
 ·replace c4 := Bool.eq_false_iff.mpr c4
  subst c4
  rw [if_neg zF] at H
  obtain rfl := Option.some.inj H
  go_enter Try.func106, Try.ntmps106
  go_wp2_with (first | ((with_reducible refine gate_dst (N := 2) rfl ?_); (try (refine gate_guard (by rfl) ?_; dsimp only)); refine box_event ?hg (N := 2) ?hd (cs := #[.int .i64 a0_0, .int .i64 a0_1, .int .i64 a0_2, .int .i64 a0_3, .int .i64 a0_4]) (t := 59) ?hr ?_; (case hd => rfl); (case hg => rfl); (case hr => exact zHH); intro gb317 hg w37 hbox hb; have BK317 := zM hbox; have GW317 := zM (zW hg (below_size zB0)); have GE317 := zM (zW hg (below_size zB0)); replace HB := zM (below_step zB0 hb); clear hb hbox hg; have hcz38 := zc_5 (w := w37) BK317.1) | (go_at_call 124; (with_reducible refine (spec_InsOk.calls a0_0 a0_1 a0_2 a0_3 a0_4 false _ A3.1).mono ?_); rintro e w39 ⟨rfl, hb⟩; replace BK317 := zM (zb BK317.1 hb); replace HB := zM (below_step zB37 hb); clear hb))
  repeat (go_quiet (first | ((with_reducible refine gate_dst (N := 2) rfl ?_); (try (refine gate_guard (by rfl) ?_; dsimp only)); refine box_event ?hg (N := 2) ?hd (cs := #[.int .i64 a0_0, .int .i64 a0_1, .int .i64 a0_2, .int .i64 a0_3, .int .i64 a0_4]) (t := 59) ?hr ?_; (case hd => rfl); (case hg => rfl); (case hr => exact zHH); intro gb317 hg w37 hbox hb; have BK317 := zM hbox; have GW317 := zM (zW hg (below_size zB0)); have GE317 := zM (zW hg (below_size zB0)); replace HB := zM (below_step zB0 hb); clear hb hbox hg; have hcz38 := zc_5 (w := w37) BK317.1) | (go_at_call 124; (with_reducible refine (spec_InsOk.calls a0_0 a0_1 a0_2 a0_3 a0_4 false _ A3.1).mono ?_); rintro e w39 ⟨rfl, hb⟩; replace BK317 := zM (zb BK317.1 hb); replace HB := zM (below_step zB37 hb); clear hb)); try go_wp2_with (first | ((with_reducible refine gate_dst (N := 2) rfl ?_); (try (refine gate_guard (by rfl) ?_; dsimp only)); refine box_event ?hg (N := 2) ?hd (cs := #[.int .i64 a0_0, .int .i64 a0_1, .int .i64 a0_2, .int .i64 a0_3, .int .i64 a0_4]) (t := 59) ?hr ?_; (case hd => rfl); (case hg => rfl); (case hr => exact zHH); intro gb317 hg w37 hbox hb; have BK317 := zM hbox; have GW317 := zM (zW hg (below_size zB0)); have GE317 := zM (zW hg (below_size zB0)); replace HB := zM (below_step zB0 hb); clear hb hbox hg; have hcz38 := zc_5 (w := w37) BK317.1) | (go_at_call 124; (with_reducible refine (spec_InsOk.calls a0_0 a0_1 a0_2 a0_3 a0_4 false _ A3.1).mono ?_); rintro e w39 ⟨rfl, hb⟩; replace BK317 := zM (zb BK317.1 hb); replace HB := zM (below_step zB37 hb); clear hb)))
  go_ret
  exact ⟨zE, zB37⟩
 subst c4
 rw [if_pos rfl] at H
 by_cases c5 : (l1.length : Int) = 4
 rotate_left
 ·rw [if_neg c5] at H
  have c5b0 : ((l1.length : Int) == 4) = false := beq_eq_false_iff_ne.mpr c5
  have c5b1 : ((l1.length : Int) != 4) = true := bne_iff_ne.mpr c5
  obtain rfl := Option.some.inj H
  go_enter Try.func106, Try.ntmps106
  go_wp2_with (first | ((with_reducible refine gate_dst (N := 2) rfl ?_); (try (refine gate_guard (by rfl) ?_; dsimp only)); refine box_event ?hg (N := 2) ?hd (cs := #[.int .i64 a0_0, .int .i64 a0_1, .int .i64 a0_2, .int .i64 a0_3, .int .i64 a0_4]) (t := 59) ?hr ?_; (case hd => rfl); (case hg => rfl); (case hr => exact zHH); intro gb317 hg w34 hbox hb; have BK317 := zM hbox; have GW317 := zM (zW hg (below_size zB0)); have GE317 := zM (zW hg (below_size zB0)); replace HB := zM (below_step zB0 hb); clear hb hbox hg; have hcz35 := zc_5 (w := w34) BK317.1) | (go_at_call 124; (with_reducible refine (spec_InsOk.calls a0_0 a0_1 a0_2 a0_3 a0_4 true _ A3.1).mono ?_); rintro e w36 ⟨rfl, hb⟩; replace BK317 := zM (zb BK317.1 hb); replace HB := zM (below_step zB37 hb); clear hb))
  repeat (go_quiet (first | ((with_reducible refine gate_dst (N := 2) rfl ?_); (try (refine gate_guard (by rfl) ?_; dsimp only)); refine box_event ?hg (N := 2) ?hd (cs := #[.int .i64 a0_0, .int .i64 a0_1, .int .i64 a0_2, .int .i64 a0_3, .int .i64 a0_4]) (t := 59) ?hr ?_; (case hd => rfl); (case hg => rfl); (case hr => exact zHH); intro gb317 hg w34 hbox hb; have BK317 := zM hbox; have GW317 := zM (zW hg (below_size zB0)); have GE317 := zM (zW hg (below_size zB0)); replace HB := zM (below_step zB0 hb); clear hb hbox hg; have hcz35 := zc_5 (w := w34) BK317.1) | (go_at_call 124; (with_reducible refine (spec_InsOk.calls a0_0 a0_1 a0_2 a0_3 a0_4 true _ A3.1).mono ?_); rintro e w36 ⟨rfl, hb⟩; replace BK317 := zM (zb BK317.1 hb); replace HB := zM (below_step zB37 hb); clear hb)); try go_wp2_with (first | ((with_reducible refine gate_dst (N := 2) rfl ?_); (try (refine gate_guard (by rfl) ?_; dsimp only)); refine box_event ?hg (N := 2) ?hd (cs := #[.int .i64 a0_0, .int .i64 a0_1, .int .i64 a0_2, .int .i64 a0_3, .int .i64 a0_4]) (t := 59) ?hr ?_; (case hd => rfl); (case hg => rfl); (case hr => exact zHH); intro gb317 hg w34 hbox hb; have BK317 := zM hbox; have GW317 := zM (zW hg (below_size zB0)); have GE317 := zM (zW hg (below_size zB0)); replace HB := zM (below_step zB0 hb); clear hb hbox hg; have hcz35 := zc_5 (w := w34) BK317.1) | (go_at_call 124; (with_reducible refine (spec_InsOk.calls a0_0 a0_1 a0_2 a0_3 a0_4 true _ A3.1).mono ?_); rintro e w36 ⟨rfl, hb⟩; replace BK317 := zM (zb BK317.1 hb); replace HB := zM (below_step zB37 hb); clear hb)))
  go_ret
  exact ⟨zE, zB37⟩
 rw [if_pos c5] at H
 have c5b0 : ((l1.length : Int) == 4) = true := beq_iff_eq.mpr c5
 have c5b1 : ((l1.length : Int) != 4) = false := bne_eq_false_iff_eq.mpr c5
 clear c5
 by_cases c6 : a0_0 = 4
 ·rw [if_pos c6] at H
  have c6b0 : (a0_0 == 4) = true := beq_iff_eq.mpr c6
  have c6b1 : (a0_0 != 4) = false := bne_eq_false_iff_eq.mpr c6
  clear c6
  by_cases c7 : 0 ≤ a0_2
  rotate_left
  ·rw [if_neg c7] at H
   exact absurd H (by simp)
  rw [if_pos c7] at H
  have c7b0 := decide_eq_true c7
  clear c7
  by_cases c8 : a0_2 < (l1.length : Int)
  rotate_left
  ·rw [if_neg c8] at H
   exact absurd H (by simp)
  rw [if_pos c8] at H
  have c8b0 := decide_eq_true c8
  clear c8
  replace H := zO H
  obtain ⟨t320, A9, H⟩ := H
  obtain rfl := Option.some.inj H
  go_enter Try.func106, Try.ntmps106
  go_wp2_with (first | ((with_reducible refine gate_dst (N := 2) rfl ?_); (try (refine gate_guard (by rfl) ?_; dsimp only)); refine box_event ?hg (N := 2) ?hd (cs := #[.int .i64 a0_0, .int .i64 a0_1, .int .i64 a0_2, .int .i64 a0_3, .int .i64 a0_4]) (t := 59) ?hr ?_; (case hd => rfl); (case hg => rfl); (case hr => exact zHH); intro gb317 hg w10 hbox hb; have BK317 := zM hbox; have GW317 := zM (zW hg (below_size zB0)); have GE317 := zM (zW hg (below_size zB0)); replace HB := zM (below_step zB0 hb); clear hb hbox hg; have hcz11 := zc_5 (w := w10) BK317.1) | (go_at_call 124; (with_reducible refine (spec_InsOk.calls a0_0 a0_1 a0_2 a0_3 a0_4 true _ A3.1).mono ?_); rintro e w12 ⟨rfl, hb⟩; replace BK317 := zM (zb BK317.1 hb); replace HB := zM (below_step zB37 hb); clear hb; have hcz13 := zc_5 (w := w12) BK317.1; have p319 : 0 ≤ (a0_2 : Int) := zA; have q319 : a0_2 < (l1.length : Int) := zA; obtain ⟨ad319, e319, hx319_0⟩ := Kd.at_int HR1.1 a0_2 p319 q319; cases e319; replace hx319_0 := (HB.1.cell (World.block_lt_of_cell? w _ hx319_0)).trans hx319_0; replace p319 := eq_true p319; replace q319 := eq_true q319) | (go_at_call 125; (with_reducible refine (spec_l9Address.calls (wrap64 ((rd l1 a0_2) + a0_4)) t320 _ A9.1).mono ?_); rintro e w' ⟨rfl, ⟨nd, rfl⟩⟩; (try first | exact ⟨rfl, _, World.drewN_drewN _ _ _⟩ | exact ⟨rfl, _, Eq.trans (World.drewN_drewN _ _ _) (congrArg (World.drewN _) (Nat.add_assoc _ _ _))⟩)))
  repeat (go_quiet (first | ((with_reducible refine gate_dst (N := 2) rfl ?_); (try (refine gate_guard (by rfl) ?_; dsimp only)); refine box_event ?hg (N := 2) ?hd (cs := #[.int .i64 a0_0, .int .i64 a0_1, .int .i64 a0_2, .int .i64 a0_3, .int .i64 a0_4]) (t := 59) ?hr ?_; (case hd => rfl); (case hg => rfl); (case hr => exact zHH); intro gb317 hg w10 hbox hb; have BK317 := zM hbox; have GW317 := zM (zW hg (below_size zB0)); have GE317 := zM (zW hg (below_size zB0)); replace HB := zM (below_step zB0 hb); clear hb hbox hg; have hcz11 := zc_5 (w := w10) BK317.1) | (go_at_call 124; (with_reducible refine (spec_InsOk.calls a0_0 a0_1 a0_2 a0_3 a0_4 true _ A3.1).mono ?_); rintro e w12 ⟨rfl, hb⟩; replace BK317 := zM (zb BK317.1 hb); replace HB := zM (below_step zB37 hb); clear hb; have hcz13 := zc_5 (w := w12) BK317.1; have p319 : 0 ≤ (a0_2 : Int) := zA; have q319 : a0_2 < (l1.length : Int) := zA; obtain ⟨ad319, e319, hx319_0⟩ := Kd.at_int HR1.1 a0_2 p319 q319; cases e319; replace hx319_0 := (HB.1.cell (World.block_lt_of_cell? w _ hx319_0)).trans hx319_0; replace p319 := eq_true p319; replace q319 := eq_true q319) | (go_at_call 125; (with_reducible refine (spec_l9Address.calls (wrap64 ((rd l1 a0_2) + a0_4)) t320 _ A9.1).mono ?_); rintro e w' ⟨rfl, ⟨nd, rfl⟩⟩; (try first | exact ⟨rfl, _, World.drewN_drewN _ _ _⟩ | exact ⟨rfl, _, Eq.trans (World.drewN_drewN _ _ _) (congrArg (World.drewN _) (Nat.add_assoc _ _ _))⟩))); try go_wp2_with (first | ((with_reducible refine gate_dst (N := 2) rfl ?_); (try (refine gate_guard (by rfl) ?_; dsimp only)); refine box_event ?hg (N := 2) ?hd (cs := #[.int .i64 a0_0, .int .i64 a0_1, .int .i64 a0_2, .int .i64 a0_3, .int .i64 a0_4]) (t := 59) ?hr ?_; (case hd => rfl); (case hg => rfl); (case hr => exact zHH); intro gb317 hg w10 hbox hb; have BK317 := zM hbox; have GW317 := zM (zW hg (below_size zB0)); have GE317 := zM (zW hg (below_size zB0)); replace HB := zM (below_step zB0 hb); clear hb hbox hg; have hcz11 := zc_5 (w := w10) BK317.1) | (go_at_call 124; (with_reducible refine (spec_InsOk.calls a0_0 a0_1 a0_2 a0_3 a0_4 true _ A3.1).mono ?_); rintro e w12 ⟨rfl, hb⟩; replace BK317 := zM (zb BK317.1 hb); replace HB := zM (below_step zB37 hb); clear hb; have hcz13 := zc_5 (w := w12) BK317.1; have p319 : 0 ≤ (a0_2 : Int) := zA; have q319 : a0_2 < (l1.length : Int) := zA; obtain ⟨ad319, e319, hx319_0⟩ := Kd.at_int HR1.1 a0_2 p319 q319; cases e319; replace hx319_0 := (HB.1.cell (World.block_lt_of_cell? w _ hx319_0)).trans hx319_0; replace p319 := eq_true p319; replace q319 := eq_true q319) | (go_at_call 125; (with_reducible refine (spec_l9Address.calls (wrap64 ((rd l1 a0_2) + a0_4)) t320 _ A9.1).mono ?_); rintro e w' ⟨rfl, ⟨nd, rfl⟩⟩; (try first | exact ⟨rfl, _, World.drewN_drewN _ _ _⟩ | exact ⟨rfl, _, Eq.trans (World.drewN_drewN _ _ _) (congrArg (World.drewN _) (Nat.add_assoc _ _ _))⟩))))
  go_ret
  exact ⟨zE, zB37⟩
 rw [if_neg c6] at H
 have c6b0 : (a0_0 == 4) = false := beq_eq_false_iff_ne.mpr c6
 have c6b1 : (a0_0 != 4) = true := bne_iff_ne.mpr c6
 by_cases c14 : a0_0 = 5
 ·rw [if_pos c14] at H
  have c14b0 : (a0_0 == 5) = true := beq_iff_eq.mpr c14
  have c14b1 : (a0_0 != 5) = false := bne_eq_false_iff_eq.mpr c14
  clear c14
  by_cases c15 : 0 ≤ a0_2
  rotate_left
  ·rw [if_neg c15] at H
   exact absurd H (by simp)
  rw [if_pos c15] at H
  have c15b0 := decide_eq_true c15
  clear c15
  by_cases c16 : a0_2 < (l1.length : Int)
  rotate_left
  ·rw [if_neg c16] at H
   exact absurd H (by simp)
  rw [if_pos c16] at H
  have c16b0 := decide_eq_true c16
  clear c16
  replace H := zO H
  obtain ⟨t322, A17, H⟩ := H
  obtain rfl := Option.some.inj H
  go_enter Try.func106, Try.ntmps106
  go_wp2_with (first | ((with_reducible refine gate_dst (N := 2) rfl ?_); (try (refine gate_guard (by rfl) ?_; dsimp only)); refine box_event ?hg (N := 2) ?hd (cs := #[.int .i64 a0_0, .int .i64 a0_1, .int .i64 a0_2, .int .i64 a0_3, .int .i64 a0_4]) (t := 59) ?hr ?_; (case hd => rfl); (case hg => rfl); (case hr => exact zHH); intro gb317 hg w18 hbox hb; have BK317 := zM hbox; have GW317 := zM (zW hg (below_size zB0)); have GE317 := zM (zW hg (below_size zB0)); replace HB := zM (below_step zB0 hb); clear hb hbox hg; have hcz19 := zc_5 (w := w18) BK317.1) | (go_at_call 124; (with_reducible refine (spec_InsOk.calls a0_0 a0_1 a0_2 a0_3 a0_4 true _ A3.1).mono ?_); rintro e w20 ⟨rfl, hb⟩; replace BK317 := zM (zb BK317.1 hb); replace HB := zM (below_step zB37 hb); clear hb; have hcz21 := zc_5 (w := w20) BK317.1; have p321 : 0 ≤ (a0_2 : Int) := zA; have q321 : a0_2 < (l1.length : Int) := zA; obtain ⟨ad321, e321, hx321_0⟩ := Kd.at_int HR1.1 a0_2 p321 q321; cases e321; replace hx321_0 := (HB.1.cell (World.block_lt_of_cell? w _ hx321_0)).trans hx321_0; replace p321 := eq_true p321; replace q321 := eq_true q321) | (go_at_call 125; (with_reducible refine (spec_l9Address.calls (wrap64 ((rd l1 a0_2) + a0_4)) t322 _ A17.1).mono ?_); rintro e w' ⟨rfl, ⟨nd, rfl⟩⟩; (try first | exact ⟨rfl, _, World.drewN_drewN _ _ _⟩ | exact ⟨rfl, _, Eq.trans (World.drewN_drewN _ _ _) (congrArg (World.drewN _) (Nat.add_assoc _ _ _))⟩)))
  repeat (go_quiet (first | ((with_reducible refine gate_dst (N := 2) rfl ?_); (try (refine gate_guard (by rfl) ?_; dsimp only)); refine box_event ?hg (N := 2) ?hd (cs := #[.int .i64 a0_0, .int .i64 a0_1, .int .i64 a0_2, .int .i64 a0_3, .int .i64 a0_4]) (t := 59) ?hr ?_; (case hd => rfl); (case hg => rfl); (case hr => exact zHH); intro gb317 hg w18 hbox hb; have BK317 := zM hbox; have GW317 := zM (zW hg (below_size zB0)); have GE317 := zM (zW hg (below_size zB0)); replace HB := zM (below_step zB0 hb); clear hb hbox hg; have hcz19 := zc_5 (w := w18) BK317.1) | (go_at_call 124; (with_reducible refine (spec_InsOk.calls a0_0 a0_1 a0_2 a0_3 a0_4 true _ A3.1).mono ?_); rintro e w20 ⟨rfl, hb⟩; replace BK317 := zM (zb BK317.1 hb); replace HB := zM (below_step zB37 hb); clear hb; have hcz21 := zc_5 (w := w20) BK317.1; have p321 : 0 ≤ (a0_2 : Int) := zA; have q321 : a0_2 < (l1.length : Int) := zA; obtain ⟨ad321, e321, hx321_0⟩ := Kd.at_int HR1.1 a0_2 p321 q321; cases e321; replace hx321_0 := (HB.1.cell (World.block_lt_of_cell? w _ hx321_0)).trans hx321_0; replace p321 := eq_true p321; replace q321 := eq_true q321) | (go_at_call 125; (with_reducible refine (spec_l9Address.calls (wrap64 ((rd l1 a0_2) + a0_4)) t322 _ A17.1).mono ?_); rintro e w' ⟨rfl, ⟨nd, rfl⟩⟩; (try first | exact ⟨rfl, _, World.drewN_drewN _ _ _⟩ | exact ⟨rfl, _, Eq.trans (World.drewN_drewN _ _ _) (congrArg (World.drewN _) (Nat.add_assoc _ _ _))⟩))); try go_wp2_with (first | ((with_reducible refine gate_dst (N := 2) rfl ?_); (try (refine gate_guard (by rfl) ?_; dsimp only)); refine box_event ?hg (N := 2) ?hd (cs := #[.int .i64 a0_0, .int .i64 a0_1, .int .i64 a0_2, .int .i64 a0_3, .int .i64 a0_4]) (t := 59) ?hr ?_; (case hd => rfl); (case hg => rfl); (case hr => exact zHH); intro gb317 hg w18 hbox hb; have BK317 := zM hbox; have GW317 := zM (zW hg (below_size zB0)); have GE317 := zM (zW hg (below_size zB0)); replace HB := zM (below_step zB0 hb); clear hb hbox hg; have hcz19 := zc_5 (w := w18) BK317.1) | (go_at_call 124; (with_reducible refine (spec_InsOk.calls a0_0 a0_1 a0_2 a0_3 a0_4 true _ A3.1).mono ?_); rintro e w20 ⟨rfl, hb⟩; replace BK317 := zM (zb BK317.1 hb); replace HB := zM (below_step zB37 hb); clear hb; have hcz21 := zc_5 (w := w20) BK317.1; have p321 : 0 ≤ (a0_2 : Int) := zA; have q321 : a0_2 < (l1.length : Int) := zA; obtain ⟨ad321, e321, hx321_0⟩ := Kd.at_int HR1.1 a0_2 p321 q321; cases e321; replace hx321_0 := (HB.1.cell (World.block_lt_of_cell? w _ hx321_0)).trans hx321_0; replace p321 := eq_true p321; replace q321 := eq_true q321) | (go_at_call 125; (with_reducible refine (spec_l9Address.calls (wrap64 ((rd l1 a0_2) + a0_4)) t322 _ A17.1).mono ?_); rintro e w' ⟨rfl, ⟨nd, rfl⟩⟩; (try first | exact ⟨rfl, _, World.drewN_drewN _ _ _⟩ | exact ⟨rfl, _, Eq.trans (World.drewN_drewN _ _ _) (congrArg (World.drewN _) (Nat.add_assoc _ _ _))⟩))))
  go_ret
  exact ⟨zE, zB37⟩
 rw [if_neg c14] at H
 have c14b0 : (a0_0 == 5) = false := beq_eq_false_iff_ne.mpr c14
 have c14b1 : (a0_0 != 5) = true := bne_iff_ne.mpr c14
 by_cases c22 : a0_0 = 6
 rotate_left
 ·rw [if_neg c22] at H
  have c22b0 : (a0_0 == 6) = false := beq_eq_false_iff_ne.mpr c22
  have c22b1 : (a0_0 != 6) = true := bne_iff_ne.mpr c22
  obtain rfl := Option.some.inj H
  go_enter Try.func106, Try.ntmps106
  go_wp2_with (first | ((with_reducible refine gate_dst (N := 2) rfl ?_); (try (refine gate_guard (by rfl) ?_; dsimp only)); refine box_event ?hg (N := 2) ?hd (cs := #[.int .i64 a0_0, .int .i64 a0_1, .int .i64 a0_2, .int .i64 a0_3, .int .i64 a0_4]) (t := 59) ?hr ?_; (case hd => rfl); (case hg => rfl); (case hr => exact zHH); intro gb317 hg w30 hbox hb; have BK317 := zM hbox; have GW317 := zM (zW hg (below_size zB0)); have GE317 := zM (zW hg (below_size zB0)); replace HB := zM (below_step zB0 hb); clear hb hbox hg; have hcz31 := zc_5 (w := w30) BK317.1) | (go_at_call 124; (with_reducible refine (spec_InsOk.calls a0_0 a0_1 a0_2 a0_3 a0_4 true _ A3.1).mono ?_); rintro e w32 ⟨rfl, hb⟩; replace BK317 := zM (zb BK317.1 hb); replace HB := zM (below_step zB37 hb); clear hb; have hcz33 := zc_5 (w := w32) BK317.1))
  repeat (go_quiet (first | ((with_reducible refine gate_dst (N := 2) rfl ?_); (try (refine gate_guard (by rfl) ?_; dsimp only)); refine box_event ?hg (N := 2) ?hd (cs := #[.int .i64 a0_0, .int .i64 a0_1, .int .i64 a0_2, .int .i64 a0_3, .int .i64 a0_4]) (t := 59) ?hr ?_; (case hd => rfl); (case hg => rfl); (case hr => exact zHH); intro gb317 hg w30 hbox hb; have BK317 := zM hbox; have GW317 := zM (zW hg (below_size zB0)); have GE317 := zM (zW hg (below_size zB0)); replace HB := zM (below_step zB0 hb); clear hb hbox hg; have hcz31 := zc_5 (w := w30) BK317.1) | (go_at_call 124; (with_reducible refine (spec_InsOk.calls a0_0 a0_1 a0_2 a0_3 a0_4 true _ A3.1).mono ?_); rintro e w32 ⟨rfl, hb⟩; replace BK317 := zM (zb BK317.1 hb); replace HB := zM (below_step zB37 hb); clear hb; have hcz33 := zc_5 (w := w32) BK317.1)); try go_wp2_with (first | ((with_reducible refine gate_dst (N := 2) rfl ?_); (try (refine gate_guard (by rfl) ?_; dsimp only)); refine box_event ?hg (N := 2) ?hd (cs := #[.int .i64 a0_0, .int .i64 a0_1, .int .i64 a0_2, .int .i64 a0_3, .int .i64 a0_4]) (t := 59) ?hr ?_; (case hd => rfl); (case hg => rfl); (case hr => exact zHH); intro gb317 hg w30 hbox hb; have BK317 := zM hbox; have GW317 := zM (zW hg (below_size zB0)); have GE317 := zM (zW hg (below_size zB0)); replace HB := zM (below_step zB0 hb); clear hb hbox hg; have hcz31 := zc_5 (w := w30) BK317.1) | (go_at_call 124; (with_reducible refine (spec_InsOk.calls a0_0 a0_1 a0_2 a0_3 a0_4 true _ A3.1).mono ?_); rintro e w32 ⟨rfl, hb⟩; replace BK317 := zM (zb BK317.1 hb); replace HB := zM (below_step zB37 hb); clear hb; have hcz33 := zc_5 (w := w32) BK317.1)))
  go_ret
  exact ⟨zE, zB37⟩
 rw [if_pos c22] at H
 have c22b0 : (a0_0 == 6) = true := beq_iff_eq.mpr c22
 have c22b1 : (a0_0 != 6) = false := bne_eq_false_iff_eq.mpr c22
 clear c22
 by_cases c23 : 0 ≤ a0_2
 rotate_left
 ·rw [if_neg c23] at H
  exact absurd H (by simp)
 rw [if_pos c23] at H
 have c23b0 := decide_eq_true c23
 clear c23
 by_cases c24 : a0_2 < (l1.length : Int)
 rotate_left
 ·rw [if_neg c24] at H
  exact absurd H (by simp)
 rw [if_pos c24] at H
 have c24b0 := decide_eq_true c24
 clear c24
 replace H := zO H
 obtain ⟨t324, A25, H⟩ := H
 obtain rfl := Option.some.inj H
 go_enter Try.func106, Try.ntmps106
 go_wp2_with (first | ((with_reducible refine gate_dst (N := 2) rfl ?_); (try (refine gate_guard (by rfl) ?_; dsimp only)); refine box_event ?hg (N := 2) ?hd (cs := #[.int .i64 a0_0, .int .i64 a0_1, .int .i64 a0_2, .int .i64 a0_3, .int .i64 a0_4]) (t := 59) ?hr ?_; (case hd => rfl); (case hg => rfl); (case hr => exact zHH); intro gb317 hg w26 hbox hb; have BK317 := zM hbox; have GW317 := zM (zW hg (below_size zB0)); have GE317 := zM (zW hg (below_size zB0)); replace HB := zM (below_step zB0 hb); clear hb hbox hg; have hcz27 := zc_5 (w := w26) BK317.1) | (go_at_call 124; (with_reducible refine (spec_InsOk.calls a0_0 a0_1 a0_2 a0_3 a0_4 true _ A3.1).mono ?_); rintro e w28 ⟨rfl, hb⟩; replace BK317 := zM (zb BK317.1 hb); replace HB := zM (below_step zB37 hb); clear hb; have hcz29 := zc_5 (w := w28) BK317.1; have p323 : 0 ≤ (a0_2 : Int) := zA; have q323 : a0_2 < (l1.length : Int) := zA; obtain ⟨ad323, e323, hx323_0⟩ := Kd.at_int HR1.1 a0_2 p323 q323; cases e323; replace hx323_0 := (HB.1.cell (World.block_lt_of_cell? w _ hx323_0)).trans hx323_0; replace p323 := eq_true p323; replace q323 := eq_true q323) | (go_at_call 125; (with_reducible refine (spec_l9Address.calls (wrap64 ((rd l1 a0_2) + a0_4)) t324 _ A25.1).mono ?_); rintro e w' ⟨rfl, ⟨nd, rfl⟩⟩; (try first | exact ⟨rfl, _, World.drewN_drewN _ _ _⟩ | exact ⟨rfl, _, Eq.trans (World.drewN_drewN _ _ _) (congrArg (World.drewN _) (Nat.add_assoc _ _ _))⟩)))
 repeat (go_quiet (first | ((with_reducible refine gate_dst (N := 2) rfl ?_); (try (refine gate_guard (by rfl) ?_; dsimp only)); refine box_event ?hg (N := 2) ?hd (cs := #[.int .i64 a0_0, .int .i64 a0_1, .int .i64 a0_2, .int .i64 a0_3, .int .i64 a0_4]) (t := 59) ?hr ?_; (case hd => rfl); (case hg => rfl); (case hr => exact zHH); intro gb317 hg w26 hbox hb; have BK317 := zM hbox; have GW317 := zM (zW hg (below_size zB0)); have GE317 := zM (zW hg (below_size zB0)); replace HB := zM (below_step zB0 hb); clear hb hbox hg; have hcz27 := zc_5 (w := w26) BK317.1) | (go_at_call 124; (with_reducible refine (spec_InsOk.calls a0_0 a0_1 a0_2 a0_3 a0_4 true _ A3.1).mono ?_); rintro e w28 ⟨rfl, hb⟩; replace BK317 := zM (zb BK317.1 hb); replace HB := zM (below_step zB37 hb); clear hb; have hcz29 := zc_5 (w := w28) BK317.1; have p323 : 0 ≤ (a0_2 : Int) := zA; have q323 : a0_2 < (l1.length : Int) := zA; obtain ⟨ad323, e323, hx323_0⟩ := Kd.at_int HR1.1 a0_2 p323 q323; cases e323; replace hx323_0 := (HB.1.cell (World.block_lt_of_cell? w _ hx323_0)).trans hx323_0; replace p323 := eq_true p323; replace q323 := eq_true q323) | (go_at_call 125; (with_reducible refine (spec_l9Address.calls (wrap64 ((rd l1 a0_2) + a0_4)) t324 _ A25.1).mono ?_); rintro e w' ⟨rfl, ⟨nd, rfl⟩⟩; (try first | exact ⟨rfl, _, World.drewN_drewN _ _ _⟩ | exact ⟨rfl, _, Eq.trans (World.drewN_drewN _ _ _) (congrArg (World.drewN _) (Nat.add_assoc _ _ _))⟩))); try go_wp2_with (first | ((with_reducible refine gate_dst (N := 2) rfl ?_); (try (refine gate_guard (by rfl) ?_; dsimp only)); refine box_event ?hg (N := 2) ?hd (cs := #[.int .i64 a0_0, .int .i64 a0_1, .int .i64 a0_2, .int .i64 a0_3, .int .i64 a0_4]) (t := 59) ?hr ?_; (case hd => rfl); (case hg => rfl); (case hr => exact zHH); intro gb317 hg w26 hbox hb; have BK317 := zM hbox; have GW317 := zM (zW hg (below_size zB0)); have GE317 := zM (zW hg (below_size zB0)); replace HB := zM (below_step zB0 hb); clear hb hbox hg; have hcz27 := zc_5 (w := w26) BK317.1) | (go_at_call 124; (with_reducible refine (spec_InsOk.calls a0_0 a0_1 a0_2 a0_3 a0_4 true _ A3.1).mono ?_); rintro e w28 ⟨rfl, hb⟩; replace BK317 := zM (zb BK317.1 hb); replace HB := zM (below_step zB37 hb); clear hb; have hcz29 := zc_5 (w := w28) BK317.1; have p323 : 0 ≤ (a0_2 : Int) := zA; have q323 : a0_2 < (l1.length : Int) := zA; obtain ⟨ad323, e323, hx323_0⟩ := Kd.at_int HR1.1 a0_2 p323 q323; cases e323; replace hx323_0 := (HB.1.cell (World.block_lt_of_cell? w _ hx323_0)).trans hx323_0; replace p323 := eq_true p323; replace q323 := eq_true q323) | (go_at_call 125; (with_reducible refine (spec_l9Address.calls (wrap64 ((rd l1 a0_2) + a0_4)) t324 _ A25.1).mono ?_); rintro e w' ⟨rfl, ⟨nd, rfl⟩⟩; (try first | exact ⟨rfl, _, World.drewN_drewN _ _ _⟩ | exact ⟨rfl, _, Eq.trans (World.drewN_drewN _ _ _) (congrArg (World.drewN _) (Nat.add_assoc _ _ _))⟩))))
 go_ret
 exact ⟨zE, zB37⟩

/-! ### spec_l9Word: function 126 -/
def spec_l9Word.f (a0 : Int) : Option (Int) := some (Go.bits .and .i64 a0 65535)
theorem spec_l9Word.calls (a0 : Int) (r : Int) (w : World) (h : spec_l9Word.f a0 = some r) :
  Calls Try.prog 126 #[.int .i64 a0] w fun e w' => e = .returned (.int .i64 r) ∧ Drawn0 w w' := by
 unfold spec_l9Word.f at h
 have H := h
 clear h
 obtain rfl := Option.some.inj H
 go_enter Try.func126, Try.ntmps126
 go_wp2
 go_ret
 exact ⟨zJJ, zDD⟩

end Go.Proofs.Ytnjdepmlpdjghaa.PFnExactEver
