-- made by wip/tools/myprint.py out of the seat's translation
import Derived.Test.YtpcgecacaemalaaPFnExactRunTox0
import Derived.Test.YtpcgecacaemalaaPFnExactRunTox2
import Derived.Test.YtpcgecacaemalaaPFnExactRunTox3
namespace Go.Proofs.Ytpcgecacaemalaa.PFnExactRunTo
open Go.RowKit Go.Proofs.YtpcgecacaemalaaW.PrintWords Go.Proofs.YtpcgecacaemalaaW.PrintLast Go.Proofs.YtpcgecacaemalaaW.PrintMore
attribute [local go_sem] max2_int min2_int max_two min_two max_three min_three max_four min_four   -- for this text's walks alone
set_option linter.unusedVariables false
set_option linter.unusedSimpArgs false
set_option maxHeartbeats 8000000
set_option maxRecDepth 100000

/-! ### impl_Decode: function 101 -/
def impl_Decode.f (a0 : Int) : Option (Int × Int × Int × Int × Int × Bool) := (impl_isWord.f a0).bind fun t156 => (if t156 = true then ((impl_InsOk.f (Int.tmod a0 16) (Int.tmod (wrap64 (Int.tdiv a0 16)) 4) (Int.tmod (wrap64 (Int.tdiv a0 64)) 4) (Int.tmod (wrap64 (Int.tdiv a0 256)) 4) (wrap64 (Int.tdiv a0 1024))).bind fun t158 => (if t158 = true then (some (Int.tmod a0 16, Int.tmod (wrap64 (Int.tdiv a0 16)) 4, Int.tmod (wrap64 (Int.tdiv a0 64)) 4, Int.tmod (wrap64 (Int.tdiv a0 256)) 4, wrap64 (Int.tdiv a0 1024), true)) else (some (0, 0, 0, 0, 0, false)))) else (some (0, 0, 0, 0, 0, false)))
theorem impl_Decode.calls (a0 : Int) (r1 : Int) (r2 : Int) (r3 : Int) (r4 : Int) (r5 : Int) (r6 : Bool) (w : World) (h : impl_Decode.f a0 = some (r1, r2, r3, r4, r5, r6)) :
  Calls Try.prog 101 #[.int .i64 a0] w fun e w' => e = .returned (.tuple #[.agg #[.int .i64 r1, .int .i64 r2, .int .i64 r3, .int .i64 r4, .int .i64 r5], .bool r6]) ∧ Below w.heap.size w w' := by
 have hu109 := Try.underlying109
 have HB := zM (Below.refl w.heap.size w)
 unfold impl_Decode.f at h
 have H := h
 clear h
 replace H := zO H
 obtain ⟨t156, A2, H⟩ := H
 by_cases c3 : t156 = true
 rotate_left
 ·replace c3 := Bool.eq_false_iff.mpr c3
  subst c3
  rw [if_neg zF] at H
  simp only [Option.some.injEq, Prod.mk.injEq] at H
  obtain ⟨rfl, rfl, rfl, rfl, rfl, rfl⟩ := H
  go_enter Try.func101, Try.ntmps101
  go_wp2_with (first | ((with_reducible refine zBx 2 109 #[.int .i64 0, .int .i64 0, .int .i64 0, .int .i64 0, .int .i64 0] ?_); intro gb155 hg w19 hbox hb; have BK155 := zM hbox; have GW155 := zM (zW hg (below_size zB1)); have GE155 := zM (zW hg (below_size zB1)); replace HB := zM (below_step zB1 hb); clear hb hbox hg) | ((with_reducible refine zG Try.func119 6 #[.int .i64 a0] ?_); (with_reducible refine (impl_isWord.calls a0 false _ A2.1).mono ?_); rintro e w' ⟨rfl, ⟨nd, rfl⟩⟩; refine ⟨_, rfl, ?_⟩; (try (rw [drewN_self w19]; generalize hq_ : World.drewN w19 _ = w19; have n0_ : Aside0 (w19.heap[gb155]? = some (.cells #[.int .i64 0, .int .i64 0, .int .i64 0, .int .i64 0, .int .i64 0] 109 (0, 0))) := ⟨by rw [← hq_]; exact (zK BK155.1)⟩; have n1_ : Aside0 (Below w.heap.size w w19) := ⟨by rw [← hq_]; exact zB1⟩; clear BK155 HB hq_; have BK155 := n0_; have HB := n1_; clear n0_ n1_)); have hcz20 := zc_5 (w := w19) BK155.1))
  refine bodyPost_ret (results_ct rfl _ _ gb155 109 #[.int .i64 0, .int .i64 0, .int .i64 0, .int .i64 0, .int .i64 0] (0, 0) _ rfl (by exact zp5 (zK BK155.1)) Try.underlying109 rfl (by kernel_rfl)) rfl ?_
  exact ⟨zE, zB1⟩
 subst c3
 rw [if_pos rfl] at H
 replace H := zO H
 obtain ⟨t158, A4, H⟩ := H
 by_cases c5 : t158 = true
 rotate_left
 ·replace c5 := Bool.eq_false_iff.mpr c5
  subst c5
  rw [if_neg zF] at H
  simp only [Option.some.injEq, Prod.mk.injEq] at H
  obtain ⟨rfl, rfl, rfl, rfl, rfl, rfl⟩ := H
  go_enter Try.func101, Try.ntmps101
  go_wp2_with (first | ((with_reducible refine zBx 2 109 #[.int .i64 0, .int .i64 0, .int .i64 0, .int .i64 0, .int .i64 0] ?_); intro gb155 hg w13 hbox hb; have BK155 := zM hbox; have GW155 := zM (zW hg (below_size zB1)); have GE155 := zM (zW hg (below_size zB1)); replace HB := zM (below_step zB1 hb); clear hb hbox hg) | ((with_reducible refine zG Try.func119 6 #[.int .i64 a0] ?_); (with_reducible refine (impl_isWord.calls a0 true _ A2.1).mono ?_); rintro e w' ⟨rfl, ⟨nd, rfl⟩⟩; refine ⟨_, rfl, ?_⟩; (try (rw [drewN_self w13]; generalize hq_ : World.drewN w13 _ = w13; have n0_ : Aside0 (w13.heap[gb155]? = some (.cells #[.int .i64 0, .int .i64 0, .int .i64 0, .int .i64 0, .int .i64 0] 109 (0, 0))) := ⟨by rw [← hq_]; exact (zK BK155.1)⟩; have n1_ : Aside0 (Below w.heap.size w w13) := ⟨by rw [← hq_]; exact zB1⟩; clear BK155 HB hq_; have BK155 := n0_; have HB := n1_; clear n0_ n1_))) | ((with_reducible refine zBx 4 109 #[.int .i64 0, .int .i64 0, .int .i64 0, .int .i64 0, .int .i64 0] ?_); intro gb157 hg w14 hbox hb; have BK157 := zM hbox; have GW157 := zM (zW hg (below_size zB1)); have GE157 := zM (zW hg (below_size zB1)); replace HB := zM (below_step zB1 hb); have NB155_157 := zM ((zn BK155.1 hg : gb155 ≠ gb157)); have NB157_155 := zM ((zm BK155.1 hg : gb157 ≠ gb155)); replace BK155 := zM (zb BK155.1 hb); clear hb hbox hg; have hnb15 := NB157_155.1; have hnc15 := NB155_157.1; have hcz16 := zc_5 (w := w14) BK157.1) | ((with_reducible refine zG Try.func120 24 #[.agg #[.int .i64 (Int.tmod a0 16), .int .i64 (Int.tmod (wrap64 (Int.tdiv a0 16)) 4), .int .i64 (Int.tmod (wrap64 (Int.tdiv a0 64)) 4), .int .i64 (Int.tmod (wrap64 (Int.tdiv a0 256)) 4), .int .i64 (wrap64 (Int.tdiv a0 1024))]] ?_); (with_reducible refine (impl_InsOk.calls (Int.tmod a0 16) (Int.tmod (wrap64 (Int.tdiv a0 16)) 4) (Int.tmod (wrap64 (Int.tdiv a0 64)) 4) (Int.tmod (wrap64 (Int.tdiv a0 256)) 4) (wrap64 (Int.tdiv a0 1024)) false _ A4.1).mono ?_); rintro e w17 ⟨rfl, hb⟩; refine ⟨_, rfl, ?_⟩; replace BK155 := zM (zf BK155.1 hb); replace BK157 := zM (blk_below (g := gb157) (o := .cells #[.int .i64 (Int.tmod a0 16), .int .i64 (Int.tmod (wrap64 (Int.tdiv a0 16)) 4), .int .i64 (Int.tmod (wrap64 (Int.tdiv a0 64)) 4), .int .i64 (Int.tmod (wrap64 (Int.tdiv a0 256)) 4), .int .i64 (wrap64 (Int.tdiv a0 1024))] 109 (0, 0)) (by exact zp5 (zK BK157.1)) hb); replace HB := zM (below_step zB1 hb); clear hb; have hcz18 := zc_5 (w := w17) BK155.1))
  refine bodyPost_ret (results_ct rfl _ _ gb155 109 #[.int .i64 0, .int .i64 0, .int .i64 0, .int .i64 0, .int .i64 0] (0, 0) _ rfl (by exact zp5 (zK BK155.1)) Try.underlying109 rfl (by kernel_rfl)) rfl ?_
  exact ⟨zE, zB1⟩
 subst c5
 rw [if_pos rfl] at H
 simp only [Option.some.injEq, Prod.mk.injEq] at H
 obtain ⟨rfl, rfl, rfl, rfl, rfl, rfl⟩ := H
 go_enter Try.func101, Try.ntmps101
 go_wp2_with (first | ((with_reducible refine zBx 2 109 #[.int .i64 0, .int .i64 0, .int .i64 0, .int .i64 0, .int .i64 0] ?_); intro gb155 hg w6 hbox hb; have BK155 := zM hbox; have GW155 := zM (zW hg (below_size zB1)); have GE155 := zM (zW hg (below_size zB1)); replace HB := zM (below_step zB1 hb); clear hb hbox hg) | ((with_reducible refine zG Try.func119 6 #[.int .i64 a0] ?_); (with_reducible refine (impl_isWord.calls a0 true _ A2.1).mono ?_); rintro e w' ⟨rfl, ⟨nd, rfl⟩⟩; refine ⟨_, rfl, ?_⟩; (try (rw [drewN_self w6]; generalize hq_ : World.drewN w6 _ = w6; have n0_ : Aside0 (w6.heap[gb155]? = some (.cells #[.int .i64 0, .int .i64 0, .int .i64 0, .int .i64 0, .int .i64 0] 109 (0, 0))) := ⟨by rw [← hq_]; exact (zK BK155.1)⟩; have n1_ : Aside0 (Below w.heap.size w w6) := ⟨by rw [← hq_]; exact zB1⟩; clear BK155 HB hq_; have BK155 := n0_; have HB := n1_; clear n0_ n1_))) | ((with_reducible refine zBx 4 109 #[.int .i64 0, .int .i64 0, .int .i64 0, .int .i64 0, .int .i64 0] ?_); intro gb157 hg w7 hbox hb; have BK157 := zM hbox; have GW157 := zM (zW hg (below_size zB1)); have GE157 := zM (zW hg (below_size zB1)); replace HB := zM (below_step zB1 hb); have NB155_157 := zM ((zn BK155.1 hg : gb155 ≠ gb157)); have NB157_155 := zM ((zm BK155.1 hg : gb157 ≠ gb155)); replace BK155 := zM (zb BK155.1 hb); clear hb hbox hg; have hnb8 := NB157_155.1; have hnc8 := NB155_157.1; have hcz9 := zc_5 (w := w7) BK157.1) | ((with_reducible refine zG Try.func120 24 #[.agg #[.int .i64 (Int.tmod a0 16), .int .i64 (Int.tmod (wrap64 (Int.tdiv a0 16)) 4), .int .i64 (Int.tmod (wrap64 (Int.tdiv a0 64)) 4), .int .i64 (Int.tmod (wrap64 (Int.tdiv a0 256)) 4), .int .i64 (wrap64 (Int.tdiv a0 1024))]] ?_); (with_reducible refine (impl_InsOk.calls (Int.tmod a0 16) (Int.tmod (wrap64 (Int.tdiv a0 16)) 4) (Int.tmod (wrap64 (Int.tdiv a0 64)) 4) (Int.tmod (wrap64 (Int.tdiv a0 256)) 4) (wrap64 (Int.tdiv a0 1024)) true _ A4.1).mono ?_); rintro e w10 ⟨rfl, hb⟩; refine ⟨_, rfl, ?_⟩; replace BK155 := zM (zf BK155.1 hb); replace BK157 := zM (blk_below (g := gb157) (o := .cells #[.int .i64 (Int.tmod a0 16), .int .i64 (Int.tmod (wrap64 (Int.tdiv a0 16)) 4), .int .i64 (Int.tmod (wrap64 (Int.tdiv a0 64)) 4), .int .i64 (Int.tmod (wrap64 (Int.tdiv a0 256)) 4), .int .i64 (wrap64 (Int.tdiv a0 1024))] 109 (0, 0)) (by exact zp5 (zK BK157.1)) hb); replace HB := zM (below_step zB1 hb); clear hb; have hcz11 := zc_5 (w := w10) BK157.1; have hcz12 := zc_5 (w := w10) BK155.1))
 refine bodyPost_ret (results_ct rfl _ _ gb155 109 #[.int .i64 (Int.tmod a0 16), .int .i64 (Int.tmod (wrap64 (Int.tdiv a0 16)) 4), .int .i64 (Int.tmod (wrap64 (Int.tdiv a0 64)) 4), .int .i64 (Int.tmod (wrap64 (Int.tdiv a0 256)) 4), .int .i64 (wrap64 (Int.tdiv a0 1024))] (0, 0) _ rfl (by exact zp5 (zK BK155.1)) Try.underlying109 rfl (by kernel_rfl)) rfl ?_
 exact ⟨zE, zB1⟩

/-! ### impl_aims: function 121 -/
def impl_aims.f (a0_0 : Int) (a0_1 : Int) (a0_2 : Int) (a0_3 : Int) (a0_4 : Int) : Option (Bool) := if a0_0 = 4 then (some true) else (if a0_0 = 5 then (some true) else (some (a0_0 == 6)))
theorem impl_aims.calls (a0_0 : Int) (a0_1 : Int) (a0_2 : Int) (a0_3 : Int) (a0_4 : Int) (r : Bool) (w : World) (h : impl_aims.f a0_0 a0_1 a0_2 a0_3 a0_4 = some r) :
  Calls Try.prog 121 #[.agg #[.int .i64 a0_0, .int .i64 a0_1, .int .i64 a0_2, .int .i64 a0_3, .int .i64 a0_4]] w fun e w' => e = .returned (.bool r) ∧ Below w.heap.size w w' := by
 have hu109 := Try.underlying109
 have HB := zM (Below.refl w.heap.size w)
 unfold impl_aims.f at h
 have H := h
 clear h
 by_cases c2 : a0_0 = 4
 ·rw [if_pos c2] at H
  have c2b0 : (a0_0 == 4) = true := beq_iff_eq.mpr c2
  have c2b1 : (a0_0 != 4) = false := bne_eq_false_iff_eq.mpr c2
  clear c2
  obtain rfl := Option.some.inj H
  go_enter Try.func121, Try.ntmps121
  go_wp2_with (first | ((with_reducible refine zBx 1 109 #[.int .i64 a0_0, .int .i64 a0_1, .int .i64 a0_2, .int .i64 a0_3, .int .i64 a0_4] ?_); intro gb159 hg w3 hbox hb; have BK159 := zM hbox; have GW159 := zM (zW hg (below_size zB1)); have GE159 := zM (zW hg (below_size zB1)); replace HB := zM (below_step zB1 hb); clear hb hbox hg; have hcz4 := zc_5 (w := w3) BK159.1))
  go_ret
  exact ⟨zE, zB1⟩
 rw [if_neg c2] at H
 have c2b0 : (a0_0 == 4) = false := beq_eq_false_iff_ne.mpr c2
 have c2b1 : (a0_0 != 4) = true := bne_iff_ne.mpr c2
 by_cases c5 : a0_0 = 5
 rotate_left
 ·rw [if_neg c5] at H
  have c5b0 : (a0_0 == 5) = false := beq_eq_false_iff_ne.mpr c5
  have c5b1 : (a0_0 != 5) = true := bne_iff_ne.mpr c5
  obtain rfl := Option.some.inj H
  go_enter Try.func121, Try.ntmps121
  go_wp2_with (first | ((with_reducible refine zBx 1 109 #[.int .i64 a0_0, .int .i64 a0_1, .int .i64 a0_2, .int .i64 a0_3, .int .i64 a0_4] ?_); intro gb159 hg w8 hbox hb; have BK159 := zM hbox; have GW159 := zM (zW hg (below_size zB1)); have GE159 := zM (zW hg (below_size zB1)); replace HB := zM (below_step zB1 hb); clear hb hbox hg; have hcz9 := zc_5 (w := w8) BK159.1))
  go_ret
  exact ⟨zE, zB1⟩
 rw [if_pos c5] at H
 have c5b0 : (a0_0 == 5) = true := beq_iff_eq.mpr c5
 have c5b1 : (a0_0 != 5) = false := bne_eq_false_iff_eq.mpr c5
 clear c5
 obtain rfl := Option.some.inj H
 go_enter Try.func121, Try.ntmps121
 go_wp2_with (first | ((with_reducible refine zBx 1 109 #[.int .i64 a0_0, .int .i64 a0_1, .int .i64 a0_2, .int .i64 a0_3, .int .i64 a0_4] ?_); intro gb159 hg w6 hbox hb; have BK159 := zM hbox; have GW159 := zM (zW hg (below_size zB1)); have GE159 := zM (zW hg (below_size zB1)); replace HB := zM (below_step zB1 hb); clear hb hbox hg; have hcz7 := zc_5 (w := w6) BK159.1))
 go_ret
 exact ⟨zE, zB1⟩

/-! ### impl_address: function 122 -/
def impl_address.f (a0 : Int) : Option (Int) := some (Int.tmod (wrap64 ((Int.tmod a0 24) + 24)) 24)
theorem impl_address.calls (a0 : Int) (r : Int) (w : World) (h : impl_address.f a0 = some r) :
  Calls Try.prog 122 #[.int .i64 a0] w fun e w' => e = .returned (.int .i64 r) ∧ Drawn0 w w' := by
 unfold impl_address.f at h
 have H := h
 clear h
 obtain rfl := Option.some.inj H
 go_enter Try.func122, Try.ntmps122
 go_wp2
 go_ret
 exact ⟨zJJ, zDD⟩

/-! ### impl_Target: function 102 -/
def impl_Target.f (a0_0 : Int) (a0_1 : Int) (a0_2 : Int) (a0_3 : Int) (a0_4 : Int) (l1 : List Int) : Option (Int) := (impl_InsOk.f a0_0 a0_1 a0_2 a0_3 a0_4).bind fun t161 => (if t161 = true then ((impl_aims.f a0_0 a0_1 a0_2 a0_3 a0_4).bind fun t162 => (if t162 = true then (if (l1.length : Int) = 4 then (if 0 ≤ a0_2 then (if a0_2 < (l1.length : Int) then ((impl_address.f (wrap64 ((rd l1 a0_2) + a0_4))).bind fun t164 => (some t164)) else (none)) else (none)) else (some (-1))) else (some (-1)))) else (some (-1)))
theorem impl_Target.calls (a0_0 : Int) (a0_1 : Int) (a0_2 : Int) (a0_3 : Int) (a0_4 : Int) (A1 : Option Addr) (c1 : Nat) (l1 : List Int) (r : Int) (w : World) (hr1 : Kd.C (Kd.int .i64) w A1 l1.length l1) (hc1 : l1.length ≤ c1) (h : impl_Target.f a0_0 a0_1 a0_2 a0_3 a0_4 l1 = some r) :
  Calls Try.prog 102 #[.agg #[.int .i64 a0_0, .int .i64 a0_1, .int .i64 a0_2, .int .i64 a0_3, .int .i64 a0_4], .slice A1 l1.length c1] w fun e w' => e = .returned (.int .i64 r) ∧ Below w.heap.size w w' := by
 have hu109 := Try.underlying109
 have HR1 := zM hr1
 have HC1 := zM hc1
 clear hr1 hc1
 have HB := zM (Below.refl w.heap.size w)
 unfold impl_Target.f at h
 have H := h
 clear h
 replace H := zO H
 obtain ⟨t161, A3, H⟩ := H
 by_cases c4 : t161 = true
 rotate_left
 ·replace c4 := Bool.eq_false_iff.mpr c4
  subst c4
  rw [if_neg zF] at H
  obtain rfl := Option.some.inj H
  go_enter Try.func102, Try.ntmps102
  go_wp2_with (first | ((with_reducible refine gate_dst (N := 2) rfl ?_); (try (refine gate_guard (by rfl) ?_; dsimp only)); (with_reducible refine zBx 2 109 #[.int .i64 a0_0, .int .i64 a0_1, .int .i64 a0_2, .int .i64 a0_3, .int .i64 a0_4] ?_); intro gb160 hg w27 hbox hb; have BK160 := zM hbox; have GW160 := zM (zW hg (below_size zB1)); have GE160 := zM (zW hg (below_size zB1)); replace HB := zM (below_step zB1 hb); clear hb hbox hg; have hcz28 := zc_5 (w := w27) BK160.1) | (go_at_call 120; (with_reducible refine (impl_InsOk.calls a0_0 a0_1 a0_2 a0_3 a0_4 false _ A3.1).mono ?_); rintro e w29 ⟨rfl, hb⟩; replace BK160 := zM (zb BK160.1 hb); replace HB := zM (below_step zB1 hb); clear hb))
  repeat (go_quiet (first | ((with_reducible refine gate_dst (N := 2) rfl ?_); (try (refine gate_guard (by rfl) ?_; dsimp only)); (with_reducible refine zBx 2 109 #[.int .i64 a0_0, .int .i64 a0_1, .int .i64 a0_2, .int .i64 a0_3, .int .i64 a0_4] ?_); intro gb160 hg w27 hbox hb; have BK160 := zM hbox; have GW160 := zM (zW hg (below_size zB1)); have GE160 := zM (zW hg (below_size zB1)); replace HB := zM (below_step zB1 hb); clear hb hbox hg; have hcz28 := zc_5 (w := w27) BK160.1) | (go_at_call 120; (with_reducible refine (impl_InsOk.calls a0_0 a0_1 a0_2 a0_3 a0_4 false _ A3.1).mono ?_); rintro e w29 ⟨rfl, hb⟩; replace BK160 := zM (zb BK160.1 hb); replace HB := zM (below_step zB1 hb); clear hb)); try go_wp2_with (first | ((with_reducible refine gate_dst (N := 2) rfl ?_); (try (refine gate_guard (by rfl) ?_; dsimp only)); (with_reducible refine zBx 2 109 #[.int .i64 a0_0, .int .i64 a0_1, .int .i64 a0_2, .int .i64 a0_3, .int .i64 a0_4] ?_); intro gb160 hg w27 hbox hb; have BK160 := zM hbox; have GW160 := zM (zW hg (below_size zB1)); have GE160 := zM (zW hg (below_size zB1)); replace HB := zM (below_step zB1 hb); clear hb hbox hg; have hcz28 := zc_5 (w := w27) BK160.1) | (go_at_call 120; (with_reducible refine (impl_InsOk.calls a0_0 a0_1 a0_2 a0_3 a0_4 false _ A3.1).mono ?_); rintro e w29 ⟨rfl, hb⟩; replace BK160 := zM (zb BK160.1 hb); replace HB := zM (below_step zB1 hb); clear hb)))
  go_ret
  exact ⟨zE, zB1⟩
 subst c4
 rw [if_pos rfl] at H
 replace H := zO H
 obtain ⟨t162, A5, H⟩ := H
 by_cases c6 : t162 = true
 rotate_left
 ·replace c6 := Bool.eq_false_iff.mpr c6
  subst c6
  rw [if_neg zF] at H
  obtain rfl := Option.some.inj H
  go_enter Try.func102, Try.ntmps102
  go_wp2_with (first | ((with_reducible refine gate_dst (N := 2) rfl ?_); (try (refine gate_guard (by rfl) ?_; dsimp only)); (with_reducible refine zBx 2 109 #[.int .i64 a0_0, .int .i64 a0_1, .int .i64 a0_2, .int .i64 a0_3, .int .i64 a0_4] ?_); intro gb160 hg w22 hbox hb; have BK160 := zM hbox; have GW160 := zM (zW hg (below_size zB1)); have GE160 := zM (zW hg (below_size zB1)); replace HB := zM (below_step zB1 hb); clear hb hbox hg; have hcz23 := zc_5 (w := w22) BK160.1) | (go_at_call 120; (with_reducible refine (impl_InsOk.calls a0_0 a0_1 a0_2 a0_3 a0_4 true _ A3.1).mono ?_); rintro e w24 ⟨rfl, hb⟩; replace BK160 := zM (zb BK160.1 hb); replace HB := zM (below_step zB1 hb); clear hb; have hcz25 := zc_5 (w := w24) BK160.1) | (go_at_call 121; (with_reducible refine (impl_aims.calls a0_0 a0_1 a0_2 a0_3 a0_4 false _ A5.1).mono ?_); rintro e w26 ⟨rfl, hb⟩; replace BK160 := zM (zb BK160.1 hb); replace HB := zM (below_step zB1 hb); clear hb))
  repeat (go_quiet (first | ((with_reducible refine gate_dst (N := 2) rfl ?_); (try (refine gate_guard (by rfl) ?_; dsimp only)); (with_reducible refine zBx 2 109 #[.int .i64 a0_0, .int .i64 a0_1, .int .i64 a0_2, .int .i64 a0_3, .int .i64 a0_4] ?_); intro gb160 hg w22 hbox hb; have BK160 := zM hbox; have GW160 := zM (zW hg (below_size zB1)); have GE160 := zM (zW hg (below_size zB1)); replace HB := zM (below_step zB1 hb); clear hb hbox hg; have hcz23 := zc_5 (w := w22) BK160.1) | (go_at_call 120; (with_reducible refine (impl_InsOk.calls a0_0 a0_1 a0_2 a0_3 a0_4 true _ A3.1).mono ?_); rintro e w24 ⟨rfl, hb⟩; replace BK160 := zM (zb BK160.1 hb); replace HB := zM (below_step zB1 hb); clear hb; have hcz25 := zc_5 (w := w24) BK160.1) | (go_at_call 121; (with_reducible refine (impl_aims.calls a0_0 a0_1 a0_2 a0_3 a0_4 false _ A5.1).mono ?_); rintro e w26 ⟨rfl, hb⟩; replace BK160 := zM (zb BK160.1 hb); replace HB := zM (below_step zB1 hb); clear hb)); try go_wp2_with (first | ((with_reducible refine gate_dst (N := 2) rfl ?_); (try (refine gate_guard (by rfl) ?_; dsimp only)); (with_reducible refine zBx 2 109 #[.int .i64 a0_0, .int .i64 a0_1, .int .i64 a0_2, .int .i64 a0_3, .int .i64 a0_4] ?_); intro gb160 hg w22 hbox hb; have BK160 := zM hbox; have GW160 := zM (zW hg (below_size zB1)); have GE160 := zM (zW hg (below_size zB1)); replace HB := zM (below_step zB1 hb); clear hb hbox hg; have hcz23 := zc_5 (w := w22) BK160.1) | (go_at_call 120; (with_reducible refine (impl_InsOk.calls a0_0 a0_1 a0_2 a0_3 a0_4 true _ A3.1).mono ?_); rintro e w24 ⟨rfl, hb⟩; replace BK160 := zM (zb BK160.1 hb); replace HB := zM (below_step zB1 hb); clear hb; have hcz25 := zc_5 (w := w24) BK160.1) | (go_at_call 121; (with_reducible refine (impl_aims.calls a0_0 a0_1 a0_2 a0_3 a0_4 false _ A5.1).mono ?_); rintro e w26 ⟨rfl, hb⟩; replace BK160 := zM (zb BK160.1 hb); replace HB := zM (below_step zB1 hb); clear hb)))
  go_ret
  exact ⟨zE, zB1⟩
 subst c6
 rw [if_pos rfl] at H
 by_cases c7 : (l1.length : Int) = 4
 rotate_left
 ·rw [if_neg c7] at H
  have c7b0 : ((l1.length : Int) == 4) = false := beq_eq_false_iff_ne.mpr c7
  have c7b1 : ((l1.length : Int) != 4) = true := bne_iff_ne.mpr c7
  obtain rfl := Option.some.inj H
  go_enter Try.func102, Try.ntmps102
  go_wp2_with (first | ((with_reducible refine gate_dst (N := 2) rfl ?_); (try (refine gate_guard (by rfl) ?_; dsimp only)); (with_reducible refine zBx 2 109 #[.int .i64 a0_0, .int .i64 a0_1, .int .i64 a0_2, .int .i64 a0_3, .int .i64 a0_4] ?_); intro gb160 hg w17 hbox hb; have BK160 := zM hbox; have GW160 := zM (zW hg (below_size zB1)); have GE160 := zM (zW hg (below_size zB1)); replace HB := zM (below_step zB1 hb); clear hb hbox hg; have hcz18 := zc_5 (w := w17) BK160.1) | (go_at_call 120; (with_reducible refine (impl_InsOk.calls a0_0 a0_1 a0_2 a0_3 a0_4 true _ A3.1).mono ?_); rintro e w19 ⟨rfl, hb⟩; replace BK160 := zM (zb BK160.1 hb); replace HB := zM (below_step zB1 hb); clear hb; have hcz20 := zc_5 (w := w19) BK160.1) | (go_at_call 121; (with_reducible refine (impl_aims.calls a0_0 a0_1 a0_2 a0_3 a0_4 true _ A5.1).mono ?_); rintro e w21 ⟨rfl, hb⟩; replace BK160 := zM (zb BK160.1 hb); replace HB := zM (below_step zB1 hb); clear hb))
  repeat (go_quiet (first | ((with_reducible refine gate_dst (N := 2) rfl ?_); (try (refine gate_guard (by rfl) ?_; dsimp only)); (with_reducible refine zBx 2 109 #[.int .i64 a0_0, .int .i64 a0_1, .int .i64 a0_2, .int .i64 a0_3, .int .i64 a0_4] ?_); intro gb160 hg w17 hbox hb; have BK160 := zM hbox; have GW160 := zM (zW hg (below_size zB1)); have GE160 := zM (zW hg (below_size zB1)); replace HB := zM (below_step zB1 hb); clear hb hbox hg; have hcz18 := zc_5 (w := w17) BK160.1) | (go_at_call 120; (with_reducible refine (impl_InsOk.calls a0_0 a0_1 a0_2 a0_3 a0_4 true _ A3.1).mono ?_); rintro e w19 ⟨rfl, hb⟩; replace BK160 := zM (zb BK160.1 hb); replace HB := zM (below_step zB1 hb); clear hb; have hcz20 := zc_5 (w := w19) BK160.1) | (go_at_call 121; (with_reducible refine (impl_aims.calls a0_0 a0_1 a0_2 a0_3 a0_4 true _ A5.1).mono ?_); rintro e w21 ⟨rfl, hb⟩; replace BK160 := zM (zb BK160.1 hb); replace HB := zM (below_step zB1 hb); clear hb)); try go_wp2_with (first | ((with_reducible refine gate_dst (N := 2) rfl ?_); (try (refine gate_guard (by rfl) ?_; dsimp only)); (with_reducible refine zBx 2 109 #[.int .i64 a0_0, .int .i64 a0_1, .int .i64 a0_2, .int .i64 a0_3, .int .i64 a0_4] ?_); intro gb160 hg w17 hbox hb; have BK160 := zM hbox; have GW160 := zM (zW hg (below_size zB1)); have GE160 := zM (zW hg (below_size zB1)); replace HB := zM (below_step zB1 hb); clear hb hbox hg; have hcz18 := zc_5 (w := w17) BK160.1) | (go_at_call 120; (with_reducible refine (impl_InsOk.calls a0_0 a0_1 a0_2 a0_3 a0_4 true _ A3.1).mono ?_); rintro e w19 ⟨rfl, hb⟩; replace BK160 := zM (zb BK160.1 hb); replace HB := zM (below_step zB1 hb); clear hb; have hcz20 := zc_5 (w := w19) BK160.1) | (go_at_call 121; (with_reducible refine (impl_aims.calls a0_0 a0_1 a0_2 a0_3 a0_4 true _ A5.1).mono ?_); rintro e w21 ⟨rfl, hb⟩; replace BK160 := zM (zb BK160.1 hb); replace HB := zM (below_step zB1 hb); clear hb)))
  go_ret
  exact ⟨zE, zB1⟩
 rw [if_pos c7] at H
 have c7b0 : ((l1.length : Int) == 4) = true := beq_iff_eq.mpr c7
 have c7b1 : ((l1.length : Int) != 4) = false := bne_eq_false_iff_eq.mpr c7
 clear c7
 replace H := zIt H
 obtain ⟨c8b0, H⟩ := H
 replace H := zIt H
 obtain ⟨c9b0, H⟩ := H
 replace H := zO H
 obtain ⟨t164, A10, H⟩ := H
 obtain rfl := Option.some.inj H
 go_enter Try.func102, Try.ntmps102
 go_wp2_with (first | ((with_reducible refine gate_dst (N := 2) rfl ?_); (try (refine gate_guard (by rfl) ?_; dsimp only)); (with_reducible refine zBx 2 109 #[.int .i64 a0_0, .int .i64 a0_1, .int .i64 a0_2, .int .i64 a0_3, .int .i64 a0_4] ?_); intro gb160 hg w11 hbox hb; have BK160 := zM hbox; have GW160 := zM (zW hg (below_size zB1)); have GE160 := zM (zW hg (below_size zB1)); replace HB := zM (below_step zB1 hb); clear hb hbox hg; have hcz12 := zc_5 (w := w11) BK160.1) | (go_at_call 120; (with_reducible refine (impl_InsOk.calls a0_0 a0_1 a0_2 a0_3 a0_4 true _ A3.1).mono ?_); rintro e w13 ⟨rfl, hb⟩; replace BK160 := zM (zb BK160.1 hb); replace HB := zM (below_step zB1 hb); clear hb; have hcz14 := zc_5 (w := w13) BK160.1) | (go_at_call 121; (with_reducible refine (impl_aims.calls a0_0 a0_1 a0_2 a0_3 a0_4 true _ A5.1).mono ?_); rintro e w15 ⟨rfl, hb⟩; replace BK160 := zM (zb BK160.1 hb); replace HB := zM (below_step zB1 hb); clear hb; have hcz16 := zc_5 (w := w15) BK160.1; obtain ⟨p163, q163, ad163, e163, hx163_0⟩ := zRd (Kd.at_int HR1.1 a0_2); cases e163; replace hx163_0 := zHx HB.1 hx163_0) | (go_at_call 122; (with_reducible refine (impl_address.calls (wrap64 ((rd l1 a0_2) + a0_4)) t164 _ A10.1).mono ?_); rintro e w' ⟨rfl, ⟨nd, rfl⟩⟩; (try first | exact ⟨rfl, _, World.drewN_drewN _ _ _⟩ | exact ⟨rfl, _, Eq.trans (World.drewN_drewN _ _ _) (congrArg (World.drewN _) (Nat.add_assoc _ _ _))⟩)))
 repeat (go_quiet (first | ((with_reducible refine gate_dst (N := 2) rfl ?_); (try (refine gate_guard (by rfl) ?_; dsimp only)); (with_reducible refine zBx 2 109 #[.int .i64 a0_0, .int .i64 a0_1, .int .i64 a0_2, .int .i64 a0_3, .int .i64 a0_4] ?_); intro gb160 hg w11 hbox hb; have BK160 := zM hbox; have GW160 := zM (zW hg (below_size zB1)); have GE160 := zM (zW hg (below_size zB1)); replace HB := zM (below_step zB1 hb); clear hb hbox hg; have hcz12 := zc_5 (w := w11) BK160.1) | (go_at_call 120; (with_reducible refine (impl_InsOk.calls a0_0 a0_1 a0_2 a0_3 a0_4 true _ A3.1).mono ?_); rintro e w13 ⟨rfl, hb⟩; replace BK160 := zM (zb BK160.1 hb); replace HB := zM (below_step zB1 hb); clear hb; have hcz14 := zc_5 (w := w13) BK160.1) | (go_at_call 121; (with_reducible refine (impl_aims.calls a0_0 a0_1 a0_2 a0_3 a0_4 true _ A5.1).mono ?_); rintro e w15 ⟨rfl, hb⟩; replace BK160 := zM (zb BK160.1 hb); replace HB := zM (below_step zB1 hb); clear hb; have hcz16 := zc_5 (w := w15) BK160.1; obtain ⟨p163, q163, ad163, e163, hx163_0⟩ := zRd (Kd.at_int HR1.1 a0_2); cases e163; replace hx163_0 := zHx HB.1 hx163_0) | (go_at_call 122; (with_reducible refine (impl_address.calls (wrap64 ((rd l1 a0_2) + a0_4)) t164 _ A10.1).mono ?_); rintro e w' ⟨rfl, ⟨nd, rfl⟩⟩; (try first | exact ⟨rfl, _, World.drewN_drewN _ _ _⟩ | exact ⟨rfl, _, Eq.trans (World.drewN_drewN _ _ _) (congrArg (World.drewN _) (Nat.add_assoc _ _ _))⟩))); try go_wp2_with (first | ((with_reducible refine gate_dst (N := 2) rfl ?_); (try (refine gate_guard (by rfl) ?_; dsimp only)); (with_reducible refine zBx 2 109 #[.int .i64 a0_0, .int .i64 a0_1, .int .i64 a0_2, .int .i64 a0_3, .int .i64 a0_4] ?_); intro gb160 hg w11 hbox hb; have BK160 := zM hbox; have GW160 := zM (zW hg (below_size zB1)); have GE160 := zM (zW hg (below_size zB1)); replace HB := zM (below_step zB1 hb); clear hb hbox hg; have hcz12 := zc_5 (w := w11) BK160.1) | (go_at_call 120; (with_reducible refine (impl_InsOk.calls a0_0 a0_1 a0_2 a0_3 a0_4 true _ A3.1).mono ?_); rintro e w13 ⟨rfl, hb⟩; replace BK160 := zM (zb BK160.1 hb); replace HB := zM (below_step zB1 hb); clear hb; have hcz14 := zc_5 (w := w13) BK160.1) | (go_at_call 121; (with_reducible refine (impl_aims.calls a0_0 a0_1 a0_2 a0_3 a0_4 true _ A5.1).mono ?_); rintro e w15 ⟨rfl, hb⟩; replace BK160 := zM (zb BK160.1 hb); replace HB := zM (below_step zB1 hb); clear hb; have hcz16 := zc_5 (w := w15) BK160.1; obtain ⟨p163, q163, ad163, e163, hx163_0⟩ := zRd (Kd.at_int HR1.1 a0_2); cases e163; replace hx163_0 := zHx HB.1 hx163_0) | (go_at_call 122; (with_reducible refine (impl_address.calls (wrap64 ((rd l1 a0_2) + a0_4)) t164 _ A10.1).mono ?_); rintro e w' ⟨rfl, ⟨nd, rfl⟩⟩; (try first | exact ⟨rfl, _, World.drewN_drewN _ _ _⟩ | exact ⟨rfl, _, Eq.trans (World.drewN_drewN _ _ _) (congrArg (World.drewN _) (Nat.add_assoc _ _ _))⟩))))
 go_ret
 exact ⟨zE, zB1⟩

/-! ### impl_wrapped: function 123 -/
def impl_wrapped.f (a0 : Int) : Option (Int) := some (Int.tmod (wrap64 ((wrap64 ((Int.tmod a0 65536) + 65535)) + 1)) 65536)
theorem impl_wrapped.calls (a0 : Int) (r : Int) (w : World) (h : impl_wrapped.f a0 = some r) :
  Calls Try.prog 123 #[.int .i64 a0] w fun e w' => e = .returned (.int .i64 r) ∧ Drawn0 w w' := by
 unfold impl_wrapped.f at h
 have H := h
 clear h
 obtain rfl := Option.some.inj H
 go_enter Try.func123, Try.ntmps123
 go_wp2
 go_ret
 exact ⟨zJJ, zDD⟩

end Go.Proofs.Ytpcgecacaemalaa.PFnExactRunTo
