-- made by wip/tools/myprint.py out of the seat's translation
import Derived.Test.YtgbjengnkbomoaaPFnRacesOfCountsx0
import Derived.Test.YtgbjengnkbomoaaPFnRacesOfCountsx6
import Derived.Test.YtgbjengnkbomoaaPFnRacesOfCountsx7
namespace Go.Proofs.Ytgbjengnkbomoaa.PFnRacesOfCounts
open Go.RowKit Go.Proofs.YtgbjengnkbomoaaW.PrintWords Go.Proofs.YtgbjengnkbomoaaW.PrintLast Go.Proofs.YtgbjengnkbomoaaW.PrintMore
attribute [local go_sem] max2_int min2_int max_two min_two max_three min_three max_four min_four   -- for this text's walks alone
set_option linter.unusedVariables false
set_option linter.unusedSimpArgs false
set_option maxHeartbeats 8000000
set_option maxRecDepth 100000

/-! ### impl_goes: function 53 -/
def impl_goes.f (k : Nat) (l0_0 : List Int) (a0_1 : Int) (a0_2 : Int) : Option (Bool) := (impl_HartOk.f k l0_0 a0_1 a0_2).bind fun t262 => (if t262 = true then (some (a0_2 == 0)) else (some false))
theorem impl_goes.mono : ∀ a0 a1 a2 k, LeO (impl_goes.f k a0 a1 a2) (impl_goes.f (k + 1) a0 a1 a2) := by
 intro a0 a1 a2 k
 unfold impl_goes.f
 have mo0 := @impl_HartOk.mono
 exact zL
theorem impl_goes.calls (k : Nat) (A0_0 : Option Addr) (c0_0 : Nat) (l0_0 : List Int) (a0_1 : Int) (a0_2 : Int) (r : Bool) (w : World) (hr0_0 : Kd.C (Kd.int .i64) w A0_0 l0_0.length l0_0) (hc0_0 : l0_0.length ≤ c0_0) (h : impl_goes.f k l0_0 a0_1 a0_2 = some r) :
  Calls Try.prog 53 #[.agg #[.slice A0_0 l0_0.length c0_0, .int .i64 a0_1, .int .i64 a0_2]] w fun e w' => e = .returned (.bool r) ∧ Below w.heap.size w w' := by
 have hu49 := Try.underlying49
 have HR0_0 := zM hr0_0
 have HC0_0 := zM hc0_0
 clear hr0_0 hc0_0
 have HB := zM (Below.refl w.heap.size w)
 unfold impl_goes.f at h
 have H := h
 clear h
 replace H := zO H
 obtain ⟨t262, A2, H⟩ := H
 by_cases c3 : t262 = true
 rotate_left
 ·replace c3 := Bool.eq_false_iff.mpr c3
  subst c3
  rw [if_neg zF] at H
  obtain rfl := Option.some.inj H
  go_enter Try.func53, Try.ntmps53
  go_wp2_with (first | ((with_reducible refine zBx 1 49 #[.slice A0_0 l0_0.length c0_0, .int .i64 a0_1, .int .i64 a0_2] ?_); intro gb261 hg w8 hbox hb; have BK261 := zM hbox; have GW261 := zM (zW hg (below_size zB1)); have GE261 := zM (zW hg (below_size zB1)); replace HB := zM (below_step zB1 hb); clear hb hbox hg; have hcz9 := zc_3 (w := w8) BK261.1) | ((with_reducible refine zG Try.func71 4 #[.agg #[.slice A0_0 l0_0.length c0_0, .int .i64 a0_1, .int .i64 a0_2]] ?_); (with_reducible refine (impl_HartOk.calls k _ _ l0_0 a0_1 a0_2 false _ ?side1 ?side2 A2.1).mono ?_); (case side1 => exact zC (Kd.C_below HR0_0.1 HB.1)); (case side2 => exact HC0_0.1); rintro e w10 ⟨rfl, hb⟩; refine ⟨_, rfl, ?_⟩; replace BK261 := zM (zb BK261.1 hb); replace HB := zM (below_step zB1 hb); clear hb))
  go_ret
  exact ⟨zE, zB1⟩
 subst c3
 rw [if_pos rfl] at H
 obtain rfl := Option.some.inj H
 go_enter Try.func53, Try.ntmps53
 go_wp2_with (first | ((with_reducible refine zBx 1 49 #[.slice A0_0 l0_0.length c0_0, .int .i64 a0_1, .int .i64 a0_2] ?_); intro gb261 hg w4 hbox hb; have BK261 := zM hbox; have GW261 := zM (zW hg (below_size zB1)); have GE261 := zM (zW hg (below_size zB1)); replace HB := zM (below_step zB1 hb); clear hb hbox hg; have hcz5 := zc_3 (w := w4) BK261.1) | ((with_reducible refine zG Try.func71 4 #[.agg #[.slice A0_0 l0_0.length c0_0, .int .i64 a0_1, .int .i64 a0_2]] ?_); (with_reducible refine (impl_HartOk.calls k _ _ l0_0 a0_1 a0_2 true _ ?side1 ?side2 A2.1).mono ?_); (case side1 => exact zC (Kd.C_below HR0_0.1 HB.1)); (case side2 => exact HC0_0.1); rintro e w6 ⟨rfl, hb⟩; refine ⟨_, rfl, ?_⟩; replace BK261 := zM (zb BK261.1 hb); replace HB := zM (below_step zB1 hb); clear hb; have hcz7 := zc_3 (w := w6) BK261.1))
 go_ret
 exact ⟨zE, zB1⟩

/-! ### impl_Decode: function 72 -/
def impl_Decode.f (a0 : Int) : Option (Int × Int × Int × Int × Int × Bool) := (impl_isWord.f a0).bind fun t264 => (if t264 = true then ((impl_InsOk.f (Int.tmod a0 16) (Int.tmod (wrap64 (Int.tdiv a0 16)) 4) (Int.tmod (wrap64 (Int.tdiv a0 64)) 4) (Int.tmod (wrap64 (Int.tdiv a0 256)) 4) (wrap64 (Int.tdiv a0 1024))).bind fun t266 => (if t266 = true then (some (Int.tmod a0 16, Int.tmod (wrap64 (Int.tdiv a0 16)) 4, Int.tmod (wrap64 (Int.tdiv a0 64)) 4, Int.tmod (wrap64 (Int.tdiv a0 256)) 4, wrap64 (Int.tdiv a0 1024), true)) else (some (0, 0, 0, 0, 0, false)))) else (some (0, 0, 0, 0, 0, false)))
theorem impl_Decode.calls (a0 : Int) (r1 : Int) (r2 : Int) (r3 : Int) (r4 : Int) (r5 : Int) (r6 : Bool) (w : World) (h : impl_Decode.f a0 = some (r1, r2, r3, r4, r5, r6)) :
  Calls Try.prog 72 #[.int .i64 a0] w fun e w' => e = .returned (.tuple #[.agg #[.int .i64 r1, .int .i64 r2, .int .i64 r3, .int .i64 r4, .int .i64 r5], .bool r6]) ∧ Below w.heap.size w w' := by
 have hu71 := Try.underlying71
 have HB := zM (Below.refl w.heap.size w)
 unfold impl_Decode.f at h
 have H := h
 clear h
 replace H := zO H
 obtain ⟨t264, A2, H⟩ := H
 by_cases c3 : t264 = true
 rotate_left
 ·replace c3 := Bool.eq_false_iff.mpr c3
  subst c3
  rw [if_neg zF] at H
  simp only [Option.some.injEq, Prod.mk.injEq] at H
  obtain ⟨rfl, rfl, rfl, rfl, rfl, rfl⟩ := H
  go_enter Try.func72, Try.ntmps72
  go_wp2_with (first | ((with_reducible refine zBx 2 71 #[.int .i64 0, .int .i64 0, .int .i64 0, .int .i64 0, .int .i64 0] ?_); intro gb263 hg w19 hbox hb; have BK263 := zM hbox; have GW263 := zM (zW hg (below_size zB1)); have GE263 := zM (zW hg (below_size zB1)); replace HB := zM (below_step zB1 hb); clear hb hbox hg) | ((with_reducible refine zG Try.func69 6 #[.int .i64 a0] ?_); (with_reducible refine (impl_isWord.calls a0 false _ A2.1).mono ?_); rintro e w' ⟨rfl, ⟨nd, rfl⟩⟩; refine ⟨_, rfl, ?_⟩; (try (rw [drewN_self w19]; generalize hq_ : World.drewN w19 _ = w19; have n0_ : Aside0 (w19.heap[gb263]? = some (.cells #[.int .i64 0, .int .i64 0, .int .i64 0, .int .i64 0, .int .i64 0] 71 (0, 0))) := ⟨by rw [← hq_]; exact (zK BK263.1)⟩; have n1_ : Aside0 (Below w.heap.size w w19) := ⟨by rw [← hq_]; exact zB1⟩; clear BK263 HB hq_; have BK263 := n0_; have HB := n1_; clear n0_ n1_)); have hcz20 := zc_5 (w := w19) BK263.1))
  refine bodyPost_ret (results_ct rfl _ _ gb263 71 #[.int .i64 0, .int .i64 0, .int .i64 0, .int .i64 0, .int .i64 0] (0, 0) _ rfl (by exact zp5 (zK BK263.1)) Try.underlying71 rfl (by kernel_rfl)) rfl ?_
  exact ⟨zE, zB1⟩
 subst c3
 rw [if_pos rfl] at H
 replace H := zO H
 obtain ⟨t266, A4, H⟩ := H
 by_cases c5 : t266 = true
 rotate_left
 ·replace c5 := Bool.eq_false_iff.mpr c5
  subst c5
  rw [if_neg zF] at H
  simp only [Option.some.injEq, Prod.mk.injEq] at H
  obtain ⟨rfl, rfl, rfl, rfl, rfl, rfl⟩ := H
  go_enter Try.func72, Try.ntmps72
  go_wp2_with (first | ((with_reducible refine zBx 2 71 #[.int .i64 0, .int .i64 0, .int .i64 0, .int .i64 0, .int .i64 0] ?_); intro gb263 hg w13 hbox hb; have BK263 := zM hbox; have GW263 := zM (zW hg (below_size zB1)); have GE263 := zM (zW hg (below_size zB1)); replace HB := zM (below_step zB1 hb); clear hb hbox hg) | ((with_reducible refine zG Try.func69 6 #[.int .i64 a0] ?_); (with_reducible refine (impl_isWord.calls a0 true _ A2.1).mono ?_); rintro e w' ⟨rfl, ⟨nd, rfl⟩⟩; refine ⟨_, rfl, ?_⟩; (try (rw [drewN_self w13]; generalize hq_ : World.drewN w13 _ = w13; have n0_ : Aside0 (w13.heap[gb263]? = some (.cells #[.int .i64 0, .int .i64 0, .int .i64 0, .int .i64 0, .int .i64 0] 71 (0, 0))) := ⟨by rw [← hq_]; exact (zK BK263.1)⟩; have n1_ : Aside0 (Below w.heap.size w w13) := ⟨by rw [← hq_]; exact zB1⟩; clear BK263 HB hq_; have BK263 := n0_; have HB := n1_; clear n0_ n1_))) | ((with_reducible refine zBx 4 71 #[.int .i64 0, .int .i64 0, .int .i64 0, .int .i64 0, .int .i64 0] ?_); intro gb265 hg w14 hbox hb; have BK265 := zM hbox; have GW265 := zM (zW hg (below_size zB1)); have GE265 := zM (zW hg (below_size zB1)); replace HB := zM (below_step zB1 hb); have NB263_265 := zM ((zn BK263.1 hg : gb263 ≠ gb265)); have NB265_263 := zM ((zm BK263.1 hg : gb265 ≠ gb263)); replace BK263 := zM (zb BK263.1 hb); clear hb hbox hg; have hnb15 := NB265_263.1; have hnc15 := NB263_265.1; have hcz16 := zc_5 (w := w14) BK265.1) | ((with_reducible refine zG Try.func84 24 #[.agg #[.int .i64 (Int.tmod a0 16), .int .i64 (Int.tmod (wrap64 (Int.tdiv a0 16)) 4), .int .i64 (Int.tmod (wrap64 (Int.tdiv a0 64)) 4), .int .i64 (Int.tmod (wrap64 (Int.tdiv a0 256)) 4), .int .i64 (wrap64 (Int.tdiv a0 1024))]] ?_); (with_reducible refine (impl_InsOk.calls (Int.tmod a0 16) (Int.tmod (wrap64 (Int.tdiv a0 16)) 4) (Int.tmod (wrap64 (Int.tdiv a0 64)) 4) (Int.tmod (wrap64 (Int.tdiv a0 256)) 4) (wrap64 (Int.tdiv a0 1024)) false _ A4.1).mono ?_); rintro e w17 ⟨rfl, hb⟩; refine ⟨_, rfl, ?_⟩; replace BK263 := zM (zf BK263.1 hb); replace BK265 := zM (blk_below (g := gb265) (o := .cells #[.int .i64 (Int.tmod a0 16), .int .i64 (Int.tmod (wrap64 (Int.tdiv a0 16)) 4), .int .i64 (Int.tmod (wrap64 (Int.tdiv a0 64)) 4), .int .i64 (Int.tmod (wrap64 (Int.tdiv a0 256)) 4), .int .i64 (wrap64 (Int.tdiv a0 1024))] 71 (0, 0)) (by exact zp5 (zK BK265.1)) hb); replace HB := zM (below_step zB1 hb); clear hb; have hcz18 := zc_5 (w := w17) BK263.1))
  refine bodyPost_ret (results_ct rfl _ _ gb263 71 #[.int .i64 0, .int .i64 0, .int .i64 0, .int .i64 0, .int .i64 0] (0, 0) _ rfl (by exact zp5 (zK BK263.1)) Try.underlying71 rfl (by kernel_rfl)) rfl ?_
  exact ⟨zE, zB1⟩
 subst c5
 rw [if_pos rfl] at H
 simp only [Option.some.injEq, Prod.mk.injEq] at H
 obtain ⟨rfl, rfl, rfl, rfl, rfl, rfl⟩ := H
 go_enter Try.func72, Try.ntmps72
 go_wp2_with (first | ((with_reducible refine zBx 2 71 #[.int .i64 0, .int .i64 0, .int .i64 0, .int .i64 0, .int .i64 0] ?_); intro gb263 hg w6 hbox hb; have BK263 := zM hbox; have GW263 := zM (zW hg (below_size zB1)); have GE263 := zM (zW hg (below_size zB1)); replace HB := zM (below_step zB1 hb); clear hb hbox hg) | ((with_reducible refine zG Try.func69 6 #[.int .i64 a0] ?_); (with_reducible refine (impl_isWord.calls a0 true _ A2.1).mono ?_); rintro e w' ⟨rfl, ⟨nd, rfl⟩⟩; refine ⟨_, rfl, ?_⟩; (try (rw [drewN_self w6]; generalize hq_ : World.drewN w6 _ = w6; have n0_ : Aside0 (w6.heap[gb263]? = some (.cells #[.int .i64 0, .int .i64 0, .int .i64 0, .int .i64 0, .int .i64 0] 71 (0, 0))) := ⟨by rw [← hq_]; exact (zK BK263.1)⟩; have n1_ : Aside0 (Below w.heap.size w w6) := ⟨by rw [← hq_]; exact zB1⟩; clear BK263 HB hq_; have BK263 := n0_; have HB := n1_; clear n0_ n1_))) | ((with_reducible refine zBx 4 71 #[.int .i64 0, .int .i64 0, .int .i64 0, .int .i64 0, .int .i64 0] ?_); intro gb265 hg w7 hbox hb; have BK265 := zM hbox; have GW265 := zM (zW hg (below_size zB1)); have GE265 := zM (zW hg (below_size zB1)); replace HB := zM (below_step zB1 hb); have NB263_265 := zM ((zn BK263.1 hg : gb263 ≠ gb265)); have NB265_263 := zM ((zm BK263.1 hg : gb265 ≠ gb263)); replace BK263 := zM (zb BK263.1 hb); clear hb hbox hg; have hnb8 := NB265_263.1; have hnc8 := NB263_265.1; have hcz9 := zc_5 (w := w7) BK265.1) | ((with_reducible refine zG Try.func84 24 #[.agg #[.int .i64 (Int.tmod a0 16), .int .i64 (Int.tmod (wrap64 (Int.tdiv a0 16)) 4), .int .i64 (Int.tmod (wrap64 (Int.tdiv a0 64)) 4), .int .i64 (Int.tmod (wrap64 (Int.tdiv a0 256)) 4), .int .i64 (wrap64 (Int.tdiv a0 1024))]] ?_); (with_reducible refine (impl_InsOk.calls (Int.tmod a0 16) (Int.tmod (wrap64 (Int.tdiv a0 16)) 4) (Int.tmod (wrap64 (Int.tdiv a0 64)) 4) (Int.tmod (wrap64 (Int.tdiv a0 256)) 4) (wrap64 (Int.tdiv a0 1024)) true _ A4.1).mono ?_); rintro e w10 ⟨rfl, hb⟩; refine ⟨_, rfl, ?_⟩; replace BK263 := zM (zf BK263.1 hb); replace BK265 := zM (blk_below (g := gb265) (o := .cells #[.int .i64 (Int.tmod a0 16), .int .i64 (Int.tmod (wrap64 (Int.tdiv a0 16)) 4), .int .i64 (Int.tmod (wrap64 (Int.tdiv a0 64)) 4), .int .i64 (Int.tmod (wrap64 (Int.tdiv a0 256)) 4), .int .i64 (wrap64 (Int.tdiv a0 1024))] 71 (0, 0)) (by exact zp5 (zK BK265.1)) hb); replace HB := zM (below_step zB1 hb); clear hb; have hcz11 := zc_5 (w := w10) BK265.1; have hcz12 := zc_5 (w := w10) BK263.1))
 refine bodyPost_ret (results_ct rfl _ _ gb263 71 #[.int .i64 (Int.tmod a0 16), .int .i64 (Int.tmod (wrap64 (Int.tdiv a0 16)) 4), .int .i64 (Int.tmod (wrap64 (Int.tdiv a0 64)) 4), .int .i64 (Int.tmod (wrap64 (Int.tdiv a0 256)) 4), .int .i64 (wrap64 (Int.tdiv a0 1024))] (0, 0) _ rfl (by exact zp5 (zK BK263.1)) Try.underlying71 rfl (by kernel_rfl)) rfl ?_
 exact ⟨zE, zB1⟩

/-! ### impl_aims: function 86 -/
def impl_aims.f (a0_0 : Int) (a0_1 : Int) (a0_2 : Int) (a0_3 : Int) (a0_4 : Int) : Option (Bool) := if a0_0 = 4 then (some true) else (if a0_0 = 5 then (some true) else (some (a0_0 == 6)))
theorem impl_aims.calls (a0_0 : Int) (a0_1 : Int) (a0_2 : Int) (a0_3 : Int) (a0_4 : Int) (r : Bool) (w : World) (h : impl_aims.f a0_0 a0_1 a0_2 a0_3 a0_4 = some r) :
  Calls Try.prog 86 #[.agg #[.int .i64 a0_0, .int .i64 a0_1, .int .i64 a0_2, .int .i64 a0_3, .int .i64 a0_4]] w fun e w' => e = .returned (.bool r) ∧ Below w.heap.size w w' := by
 have hu71 := Try.underlying71
 have HB := zM (Below.refl w.heap.size w)
 unfold impl_aims.f at h
 have H := h
 clear h
 by_cases c2 : a0_0 = 4
 ·rw [if_pos c2] at H
  have c2b0 : (a0_0 == 4) = true := beq_iff_eq.mpr c2
  have c2b1 : (a0_0 != 4) = false := bne_eq_false_iff_eq.mpr c2
  clear c2
  obtain rfl := Option.some.inj H
  go_enter Try.func86, Try.ntmps86
  go_wp2_with (first | ((with_reducible refine zBx 1 71 #[.int .i64 a0_0, .int .i64 a0_1, .int .i64 a0_2, .int .i64 a0_3, .int .i64 a0_4] ?_); intro gb267 hg w3 hbox hb; have BK267 := zM hbox; have GW267 := zM (zW hg (below_size zB1)); have GE267 := zM (zW hg (below_size zB1)); replace HB := zM (below_step zB1 hb); clear hb hbox hg; have hcz4 := zc_5 (w := w3) BK267.1))
  go_ret
  exact ⟨zE, zB1⟩
 rw [if_neg c2] at H
 have c2b0 : (a0_0 == 4) = false := beq_eq_false_iff_ne.mpr c2
 have c2b1 : (a0_0 != 4) = true := bne_iff_ne.mpr c2
 by_cases c5 : a0_0 = 5
 rotate_left
 ·rw [if_neg c5] at H
  have c5b0 : (a0_0 == 5) = false := beq_eq_false_iff_ne.mpr c5
  have c5b1 : (a0_0 != 5) = true := bne_iff_ne.mpr c5
  obtain rfl := Option.some.inj H
  go_enter Try.func86, Try.ntmps86
  go_wp2_with (first | ((with_reducible refine zBx 1 71 #[.int .i64 a0_0, .int .i64 a0_1, .int .i64 a0_2, .int .i64 a0_3, .int .i64 a0_4] ?_); intro gb267 hg w8 hbox hb; have BK267 := zM hbox; have GW267 := zM (zW hg (below_size zB1)); have GE267 := zM (zW hg (below_size zB1)); replace HB := zM (below_step zB1 hb); clear hb hbox hg; have hcz9 := zc_5 (w := w8) BK267.1))
  go_ret
  exact ⟨zE, zB1⟩
 rw [if_pos c5] at H
 have c5b0 : (a0_0 == 5) = true := beq_iff_eq.mpr c5
 have c5b1 : (a0_0 != 5) = false := bne_eq_false_iff_eq.mpr c5
 clear c5
 obtain rfl := Option.some.inj H
 go_enter Try.func86, Try.ntmps86
 go_wp2_with (first | ((with_reducible refine zBx 1 71 #[.int .i64 a0_0, .int .i64 a0_1, .int .i64 a0_2, .int .i64 a0_3, .int .i64 a0_4] ?_); intro gb267 hg w6 hbox hb; have BK267 := zM hbox; have GW267 := zM (zW hg (below_size zB1)); have GE267 := zM (zW hg (below_size zB1)); replace HB := zM (below_step zB1 hb); clear hb hbox hg; have hcz7 := zc_5 (w := w6) BK267.1))
 go_ret
 exact ⟨zE, zB1⟩

/-! ### impl_Target: function 73 -/
def impl_Target.f (a0_0 : Int) (a0_1 : Int) (a0_2 : Int) (a0_3 : Int) (a0_4 : Int) (l1 : List Int) : Option (Int) := (impl_InsOk.f a0_0 a0_1 a0_2 a0_3 a0_4).bind fun t269 => (if t269 = true then ((impl_aims.f a0_0 a0_1 a0_2 a0_3 a0_4).bind fun t270 => (if t270 = true then (if (l1.length : Int) = 4 then (if 0 ≤ a0_2 then (if a0_2 < (l1.length : Int) then ((impl_address.f (wrap64 ((rd l1 a0_2) + a0_4))).bind fun t272 => (some t272)) else (none)) else (none)) else (some (-1))) else (some (-1)))) else (some (-1)))
theorem impl_Target.calls (a0_0 : Int) (a0_1 : Int) (a0_2 : Int) (a0_3 : Int) (a0_4 : Int) (A1 : Option Addr) (c1 : Nat) (l1 : List Int) (r : Int) (w : World) (hr1 : Kd.C (Kd.int .i64) w A1 l1.length l1) (hc1 : l1.length ≤ c1) (h : impl_Target.f a0_0 a0_1 a0_2 a0_3 a0_4 l1 = some r) :
  Calls Try.prog 73 #[.agg #[.int .i64 a0_0, .int .i64 a0_1, .int .i64 a0_2, .int .i64 a0_3, .int .i64 a0_4], .slice A1 l1.length c1] w fun e w' => e = .returned (.int .i64 r) ∧ Below w.heap.size w w' := by
 have hu71 := Try.underlying71
 have HR1 := zM hr1
 have HC1 := zM hc1
 clear hr1 hc1
 have HB := zM (Below.refl w.heap.size w)
 unfold impl_Target.f at h
 have H := h
 clear h
 replace H := zO H
 obtain ⟨t269, A3, H⟩ := H
 by_cases c4 : t269 = true
 rotate_left
 ·replace c4 := Bool.eq_false_iff.mpr c4
  subst c4
  rw [if_neg zF] at H
  obtain rfl := Option.some.inj H
  go_enter Try.func73, Try.ntmps73
  go_wp2_with (first | ((with_reducible refine gate_dst (N := 2) rfl ?_); (try (refine gate_guard (by rfl) ?_; dsimp only)); (with_reducible refine zBx 2 71 #[.int .i64 a0_0, .int .i64 a0_1, .int .i64 a0_2, .int .i64 a0_3, .int .i64 a0_4] ?_); intro gb268 hg w27 hbox hb; have BK268 := zM hbox; have GW268 := zM (zW hg (below_size zB1)); have GE268 := zM (zW hg (below_size zB1)); replace HB := zM (below_step zB1 hb); clear hb hbox hg; have hcz28 := zc_5 (w := w27) BK268.1) | (go_at_call 84; (with_reducible refine (impl_InsOk.calls a0_0 a0_1 a0_2 a0_3 a0_4 false _ A3.1).mono ?_); rintro e w29 ⟨rfl, hb⟩; replace BK268 := zM (zb BK268.1 hb); replace HB := zM (below_step zB1 hb); clear hb))
  repeat (go_quiet (first | ((with_reducible refine gate_dst (N := 2) rfl ?_); (try (refine gate_guard (by rfl) ?_; dsimp only)); (with_reducible refine zBx 2 71 #[.int .i64 a0_0, .int .i64 a0_1, .int .i64 a0_2, .int .i64 a0_3, .int .i64 a0_4] ?_); intro gb268 hg w27 hbox hb; have BK268 := zM hbox; have GW268 := zM (zW hg (below_size zB1)); have GE268 := zM (zW hg (below_size zB1)); replace HB := zM (below_step zB1 hb); clear hb hbox hg; have hcz28 := zc_5 (w := w27) BK268.1) | (go_at_call 84; (with_reducible refine (impl_InsOk.calls a0_0 a0_1 a0_2 a0_3 a0_4 false _ A3.1).mono ?_); rintro e w29 ⟨rfl, hb⟩; replace BK268 := zM (zb BK268.1 hb); replace HB := zM (below_step zB1 hb); clear hb)); try go_wp2_with (first | ((with_reducible refine gate_dst (N := 2) rfl ?_); (try (refine gate_guard (by rfl) ?_; dsimp only)); (with_reducible refine zBx 2 71 #[.int .i64 a0_0, .int .i64 a0_1, .int .i64 a0_2, .int .i64 a0_3, .int .i64 a0_4] ?_); intro gb268 hg w27 hbox hb; have BK268 := zM hbox; have GW268 := zM (zW hg (below_size zB1)); have GE268 := zM (zW hg (below_size zB1)); replace HB := zM (below_step zB1 hb); clear hb hbox hg; have hcz28 := zc_5 (w := w27) BK268.1) | (go_at_call 84; (with_reducible refine (impl_InsOk.calls a0_0 a0_1 a0_2 a0_3 a0_4 false _ A3.1).mono ?_); rintro e w29 ⟨rfl, hb⟩; replace BK268 := zM (zb BK268.1 hb); replace HB := zM (below_step zB1 hb); clear hb)))
  go_ret
  exact ⟨zE, zB1⟩
 subst c4
 rw [if_pos rfl] at H
 replace H := zO H
 obtain ⟨t270, A5, H⟩ := H
 by_cases c6 : t270 = true
 rotate_left
 ·replace c6 := Bool.eq_false_iff.mpr c6
  subst c6
  rw [if_neg zF] at H
  obtain rfl := Option.some.inj H
  go_enter Try.func73, Try.ntmps73
  go_wp2_with (first | ((with_reducible refine gate_dst (N := 2) rfl ?_); (try (refine gate_guard (by rfl) ?_; dsimp only)); (with_reducible refine zBx 2 71 #[.int .i64 a0_0, .int .i64 a0_1, .int .i64 a0_2, .int .i64 a0_3, .int .i64 a0_4] ?_); intro gb268 hg w22 hbox hb; have BK268 := zM hbox; have GW268 := zM (zW hg (below_size zB1)); have GE268 := zM (zW hg (below_size zB1)); replace HB := zM (below_step zB1 hb); clear hb hbox hg; have hcz23 := zc_5 (w := w22) BK268.1) | (go_at_call 84; (with_reducible refine (impl_InsOk.calls a0_0 a0_1 a0_2 a0_3 a0_4 true _ A3.1).mono ?_); rintro e w24 ⟨rfl, hb⟩; replace BK268 := zM (zb BK268.1 hb); replace HB := zM (below_step zB1 hb); clear hb; have hcz25 := zc_5 (w := w24) BK268.1) | (go_at_call 86; (with_reducible refine (impl_aims.calls a0_0 a0_1 a0_2 a0_3 a0_4 false _ A5.1).mono ?_); rintro e w26 ⟨rfl, hb⟩; replace BK268 := zM (zb BK268.1 hb); replace HB := zM (below_step zB1 hb); clear hb))
  repeat (go_quiet (first | ((with_reducible refine gate_dst (N := 2) rfl ?_); (try (refine gate_guard (by rfl) ?_; dsimp only)); (with_reducible refine zBx 2 71 #[.int .i64 a0_0, .int .i64 a0_1, .int .i64 a0_2, .int .i64 a0_3, .int .i64 a0_4] ?_); intro gb268 hg w22 hbox hb; have BK268 := zM hbox; have GW268 := zM (zW hg (below_size zB1)); have GE268 := zM (zW hg (below_size zB1)); replace HB := zM (below_step zB1 hb); clear hb hbox hg; have hcz23 := zc_5 (w := w22) BK268.1) | (go_at_call 84; (with_reducible refine (impl_InsOk.calls a0_0 a0_1 a0_2 a0_3 a0_4 true _ A3.1).mono ?_); rintro e w24 ⟨rfl, hb⟩; replace BK268 := zM (zb BK268.1 hb); replace HB := zM (below_step zB1 hb); clear hb; have hcz25 := zc_5 (w := w24) BK268.1) | (go_at_call 86; (with_reducible refine (impl_aims.calls a0_0 a0_1 a0_2 a0_3 a0_4 false _ A5.1).mono ?_); rintro e w26 ⟨rfl, hb⟩; replace BK268 := zM (zb BK268.1 hb); replace HB := zM (below_step zB1 hb); clear hb)); try go_wp2_with (first | ((with_reducible refine gate_dst (N := 2) rfl ?_); (try (refine gate_guard (by rfl) ?_; dsimp only)); (with_reducible refine zBx 2 71 #[.int .i64 a0_0, .int .i64 a0_1, .int .i64 a0_2, .int .i64 a0_3, .int .i64 a0_4] ?_); intro gb268 hg w22 hbox hb; have BK268 := zM hbox; have GW268 := zM (zW hg (below_size zB1)); have GE268 := zM (zW hg (below_size zB1)); replace HB := zM (below_step zB1 hb); clear hb hbox hg; have hcz23 := zc_5 (w := w22) BK268.1) | (go_at_call 84; (with_reducible refine (impl_InsOk.calls a0_0 a0_1 a0_2 a0_3 a0_4 true _ A3.1).mono ?_); rintro e w24 ⟨rfl, hb⟩; replace BK268 := zM (zb BK268.1 hb); replace HB := zM (below_step zB1 hb); clear hb; have hcz25 := zc_5 (w := w24) BK268.1) | (go_at_call 86; (with_reducible refine (impl_aims.calls a0_0 a0_1 a0_2 a0_3 a0_4 false _ A5.1).mono ?_); rintro e w26 ⟨rfl, hb⟩; replace BK268 := zM (zb BK268.1 hb); replace HB := zM (below_step zB1 hb); clear hb)))
  go_ret
  exact ⟨zE, zB1⟩
 subst c6
 rw [if_pos rfl] at H
 by_cases c7 : (l1.length : Int) = 4
 rotate_left
 ·rw [if_neg c7] at H
  have c7b0 : ((l1.length : Int) == 4) = false := beq_eq_false_iff_ne.mpr c7
  have c7b1 : ((l1.length : Int) != 4) = true := bne_iff_ne.mpr c7
  obtain rfl := Option.some.inj H
  go_enter Try.func73, Try.ntmps73
  go_wp2_with (first | ((with_reducible refine gate_dst (N := 2) rfl ?_); (try (refine gate_guard (by rfl) ?_; dsimp only)); (with_reducible refine zBx 2 71 #[.int .i64 a0_0, .int .i64 a0_1, .int .i64 a0_2, .int .i64 a0_3, .int .i64 a0_4] ?_); intro gb268 hg w17 hbox hb; have BK268 := zM hbox; have GW268 := zM (zW hg (below_size zB1)); have GE268 := zM (zW hg (below_size zB1)); replace HB := zM (below_step zB1 hb); clear hb hbox hg; have hcz18 := zc_5 (w := w17) BK268.1) | (go_at_call 84; (with_reducible refine (impl_InsOk.calls a0_0 a0_1 a0_2 a0_3 a0_4 true _ A3.1).mono ?_); rintro e w19 ⟨rfl, hb⟩; replace BK268 := zM (zb BK268.1 hb); replace HB := zM (below_step zB1 hb); clear hb; have hcz20 := zc_5 (w := w19) BK268.1) | (go_at_call 86; (with_reducible refine (impl_aims.calls a0_0 a0_1 a0_2 a0_3 a0_4 true _ A5.1).mono ?_); rintro e w21 ⟨rfl, hb⟩; replace BK268 := zM (zb BK268.1 hb); replace HB := zM (below_step zB1 hb); clear hb))
  repeat (go_quiet (first | ((with_reducible refine gate_dst (N := 2) rfl ?_); (try (refine gate_guard (by rfl) ?_; dsimp only)); (with_reducible refine zBx 2 71 #[.int .i64 a0_0, .int .i64 a0_1, .int .i64 a0_2, .int .i64 a0_3, .int .i64 a0_4] ?_); intro gb268 hg w17 hbox hb; have BK268 := zM hbox; have GW268 := zM (zW hg (below_size zB1)); have GE268 := zM (zW hg (below_size zB1)); replace HB := zM (below_step zB1 hb); clear hb hbox hg; have hcz18 := zc_5 (w := w17) BK268.1) | (go_at_call 84; (with_reducible refine (impl_InsOk.calls a0_0 a0_1 a0_2 a0_3 a0_4 true _ A3.1).mono ?_); rintro e w19 ⟨rfl, hb⟩; replace BK268 := zM (zb BK268.1 hb); replace HB := zM (below_step zB1 hb); clear hb; have hcz20 := zc_5 (w := w19) BK268.1) | (go_at_call 86; (with_reducible refine (impl_aims.calls a0_0 a0_1 a0_2 a0_3 a0_4 true _ A5.1).mono ?_); rintro e w21 ⟨rfl, hb⟩; replace BK268 := zM (zb BK268.1 hb); replace HB := zM (below_step zB1 hb); clear hb)); try go_wp2_with (first | ((with_reducible refine gate_dst (N := 2) rfl ?_); (try (refine gate_guard (by rfl) ?_; dsimp only)); (with_reducible refine zBx 2 71 #[.int .i64 a0_0, .int .i64 a0_1, .int .i64 a0_2, .int .i64 a0_3, .int .i64 a0_4] ?_); intro gb268 hg w17 hbox hb; have BK268 := zM hbox; have GW268 := zM (zW hg (below_size zB1)); have GE268 := zM (zW hg (below_size zB1)); replace HB := zM (below_step zB1 hb); clear hb hbox hg; have hcz18 := zc_5 (w := w17) BK268.1) | (go_at_call 84; (with_reducible refine (impl_InsOk.calls a0_0 a0_1 a0_2 a0_3 a0_4 true _ A3.1).mono ?_); rintro e w19 ⟨rfl, hb⟩; replace BK268 := zM (zb BK268.1 hb); replace HB := zM (below_step zB1 hb); clear hb; have hcz20 := zc_5 (w := w19) BK268.1) | (go_at_call 86; (with_reducible refine (impl_aims.calls a0_0 a0_1 a0_2 a0_3 a0_4 true _ A5.1).mono ?_); rintro e w21 ⟨rfl, hb⟩; replace BK268 := zM (zb BK268.1 hb); replace HB := zM (below_step zB1 hb); clear hb)))
  go_ret
  exact ⟨zE, zB1⟩
 rw [if_pos c7] at H
 have c7b0 : ((l1.length : Int) == 4) = true := beq_iff_eq.mpr c7
 have c7b1 : ((l1.length : Int) != 4) = false := bne_eq_false_iff_eq.mpr c7
 clear c7
 replace H := zIt H
 obtain ⟨c8b0, H⟩ := H
 replace H := zIt H
 obtain ⟨c9b0, H⟩ := H
 replace H := zO H
 obtain ⟨t272, A10, H⟩ := H
 obtain rfl := Option.some.inj H
 go_enter Try.func73, Try.ntmps73
 go_wp2_with (first | ((with_reducible refine gate_dst (N := 2) rfl ?_); (try (refine gate_guard (by rfl) ?_; dsimp only)); (with_reducible refine zBx 2 71 #[.int .i64 a0_0, .int .i64 a0_1, .int .i64 a0_2, .int .i64 a0_3, .int .i64 a0_4] ?_); intro gb268 hg w11 hbox hb; have BK268 := zM hbox; have GW268 := zM (zW hg (below_size zB1)); have GE268 := zM (zW hg (below_size zB1)); replace HB := zM (below_step zB1 hb); clear hb hbox hg; have hcz12 := zc_5 (w := w11) BK268.1) | (go_at_call 84; (with_reducible refine (impl_InsOk.calls a0_0 a0_1 a0_2 a0_3 a0_4 true _ A3.1).mono ?_); rintro e w13 ⟨rfl, hb⟩; replace BK268 := zM (zb BK268.1 hb); replace HB := zM (below_step zB1 hb); clear hb; have hcz14 := zc_5 (w := w13) BK268.1) | (go_at_call 86; (with_reducible refine (impl_aims.calls a0_0 a0_1 a0_2 a0_3 a0_4 true _ A5.1).mono ?_); rintro e w15 ⟨rfl, hb⟩; replace BK268 := zM (zb BK268.1 hb); replace HB := zM (below_step zB1 hb); clear hb; have hcz16 := zc_5 (w := w15) BK268.1; have p271 : 0 ≤ (a0_2 : Int) := zA; have q271 : a0_2 < (l1.length : Int) := zA; obtain ⟨ad271, e271, hx271_0⟩ := Kd.at_int HR1.1 a0_2 p271 q271; cases e271; replace hx271_0 := (HB.1.cell (World.block_lt_of_cell? w _ hx271_0)).trans hx271_0; replace p271 := eq_true p271; replace q271 := eq_true q271) | (go_at_call 49; (with_reducible refine (impl_address.calls (wrap64 ((rd l1 a0_2) + a0_4)) t272 _ A10.1).mono ?_); rintro e w' ⟨rfl, ⟨nd, rfl⟩⟩; (try first | exact ⟨rfl, _, World.drewN_drewN _ _ _⟩ | exact ⟨rfl, _, Eq.trans (World.drewN_drewN _ _ _) (congrArg (World.drewN _) (Nat.add_assoc _ _ _))⟩)))
 repeat (go_quiet (first | ((with_reducible refine gate_dst (N := 2) rfl ?_); (try (refine gate_guard (by rfl) ?_; dsimp only)); (with_reducible refine zBx 2 71 #[.int .i64 a0_0, .int .i64 a0_1, .int .i64 a0_2, .int .i64 a0_3, .int .i64 a0_4] ?_); intro gb268 hg w11 hbox hb; have BK268 := zM hbox; have GW268 := zM (zW hg (below_size zB1)); have GE268 := zM (zW hg (below_size zB1)); replace HB := zM (below_step zB1 hb); clear hb hbox hg; have hcz12 := zc_5 (w := w11) BK268.1) | (go_at_call 84; (with_reducible refine (impl_InsOk.calls a0_0 a0_1 a0_2 a0_3 a0_4 true _ A3.1).mono ?_); rintro e w13 ⟨rfl, hb⟩; replace BK268 := zM (zb BK268.1 hb); replace HB := zM (below_step zB1 hb); clear hb; have hcz14 := zc_5 (w := w13) BK268.1) | (go_at_call 86; (with_reducible refine (impl_aims.calls a0_0 a0_1 a0_2 a0_3 a0_4 true _ A5.1).mono ?_); rintro e w15 ⟨rfl, hb⟩; replace BK268 := zM (zb BK268.1 hb); replace HB := zM (below_step zB1 hb); clear hb; have hcz16 := zc_5 (w := w15) BK268.1; have p271 : 0 ≤ (a0_2 : Int) := zA; have q271 : a0_2 < (l1.length : Int) := zA; obtain ⟨ad271, e271, hx271_0⟩ := Kd.at_int HR1.1 a0_2 p271 q271; cases e271; replace hx271_0 := (HB.1.cell (World.block_lt_of_cell? w _ hx271_0)).trans hx271_0; replace p271 := eq_true p271; replace q271 := eq_true q271) | (go_at_call 49; (with_reducible refine (impl_address.calls (wrap64 ((rd l1 a0_2) + a0_4)) t272 _ A10.1).mono ?_); rintro e w' ⟨rfl, ⟨nd, rfl⟩⟩; (try first | exact ⟨rfl, _, World.drewN_drewN _ _ _⟩ | exact ⟨rfl, _, Eq.trans (World.drewN_drewN _ _ _) (congrArg (World.drewN _) (Nat.add_assoc _ _ _))⟩))); try go_wp2_with (first | ((with_reducible refine gate_dst (N := 2) rfl ?_); (try (refine gate_guard (by rfl) ?_; dsimp only)); (with_reducible refine zBx 2 71 #[.int .i64 a0_0, .int .i64 a0_1, .int .i64 a0_2, .int .i64 a0_3, .int .i64 a0_4] ?_); intro gb268 hg w11 hbox hb; have BK268 := zM hbox; have GW268 := zM (zW hg (below_size zB1)); have GE268 := zM (zW hg (below_size zB1)); replace HB := zM (below_step zB1 hb); clear hb hbox hg; have hcz12 := zc_5 (w := w11) BK268.1) | (go_at_call 84; (with_reducible refine (impl_InsOk.calls a0_0 a0_1 a0_2 a0_3 a0_4 true _ A3.1).mono ?_); rintro e w13 ⟨rfl, hb⟩; replace BK268 := zM (zb BK268.1 hb); replace HB := zM (below_step zB1 hb); clear hb; have hcz14 := zc_5 (w := w13) BK268.1) | (go_at_call 86; (with_reducible refine (impl_aims.calls a0_0 a0_1 a0_2 a0_3 a0_4 true _ A5.1).mono ?_); rintro e w15 ⟨rfl, hb⟩; replace BK268 := zM (zb BK268.1 hb); replace HB := zM (below_step zB1 hb); clear hb; have hcz16 := zc_5 (w := w15) BK268.1; have p271 : 0 ≤ (a0_2 : Int) := zA; have q271 : a0_2 < (l1.length : Int) := zA; obtain ⟨ad271, e271, hx271_0⟩ := Kd.at_int HR1.1 a0_2 p271 q271; cases e271; replace hx271_0 := (HB.1.cell (World.block_lt_of_cell? w _ hx271_0)).trans hx271_0; replace p271 := eq_true p271; replace q271 := eq_true q271) | (go_at_call 49; (with_reducible refine (impl_address.calls (wrap64 ((rd l1 a0_2) + a0_4)) t272 _ A10.1).mono ?_); rintro e w' ⟨rfl, ⟨nd, rfl⟩⟩; (try first | exact ⟨rfl, _, World.drewN_drewN _ _ _⟩ | exact ⟨rfl, _, Eq.trans (World.drewN_drewN _ _ _) (congrArg (World.drewN _) (Nat.add_assoc _ _ _))⟩))))
 go_ret
 exact ⟨zE, zB1⟩

/-! ### impl_wrapped: function 87 -/
def impl_wrapped.f (a0 : Int) : Option (Int) := some (Int.tmod (wrap64 ((wrap64 ((Int.tmod a0 65536) + 65535)) + 1)) 65536)
theorem impl_wrapped.calls (a0 : Int) (r : Int) (w : World) (h : impl_wrapped.f a0 = some r) :
  Calls Try.prog 87 #[.int .i64 a0] w fun e w' => e = .returned (.int .i64 r) ∧ Drawn0 w w' := by
 unfold impl_wrapped.f at h
 have H := h
 clear h
 obtain rfl := Option.some.inj H
 go_enter Try.func87, Try.ntmps87
 go_wp2
 go_ret
 exact ⟨zJJ, zDD⟩

end Go.Proofs.Ytgbjengnkbomoaa.PFnRacesOfCounts
