-- made by wip/tools/myprint.py out of the seat's translation
import Derived.Test.YtnjdepmlpdjghaaPFnAllEndsx0
import Derived.Test.YtnjdepmlpdjghaaPFnAllEndsx2
import Derived.Test.YtnjdepmlpdjghaaPFnAllEndsx12
import Derived.Test.YtnjdepmlpdjghaaPFnAllEndsx13
import Derived.Test.YtnjdepmlpdjghaaPFnAllEndsx14
namespace Go.Proofs.Ytnjdepmlpdjghaa.PFnAllEnds
open Go.RowKit Go.Proofs.YtnjdepmlpdjghaaW.PrintWords Go.Proofs.YtnjdepmlpdjghaaW.PrintLast Go.Proofs.YtnjdepmlpdjghaaW.PrintMore
attribute [local go_sem] max2_int min2_int max_two min_two max_three min_three max_four min_four   -- for this text's walks alone
set_option linter.unusedVariables false
set_option linter.unusedSimpArgs false
set_option maxHeartbeats 8000000
set_option maxRecDepth 100000

/-! ### spec_l8DrawIns: function 129 -/
mutual
def spec_l8DrawIns.j0 : Nat → Int → List Int → Int → Int → Int → Int → Int → Int → Int → Option (Int × Int × Int × Int × Int × Int × Int)
 | 0, _, _, _, _, _, _, _, _, _ => none
 | k + 1, x4, x1000, x1001, x1002, x449000, x449001, x449002, x449003, x449004 => if (Go.bits .and .i64 x4 2) = 0 then (spec_l8DrawIns.j1 k x4 x1000 x1001 x1002 x449000 x449001 x449002 x449003 x449004) else ((spec_l1Below.f x1000 x1001 x1002 4).bind fun bt453 => (spec_l8DrawIns.j1 k x4 x1000 bt453.2.1 bt453.2.2 x449000 x449001 bt453.1 x449003 x449004))
def spec_l8DrawIns.j1 : Nat → Int → List Int → Int → Int → Int → Int → Int → Int → Int → Option (Int × Int × Int × Int × Int × Int × Int)
 | 0, _, _, _, _, _, _, _, _, _ => none
 | k + 1, x4, x1000, x1001, x1002, x449000, x449001, x449002, x449003, x449004 => if (Go.bits .and .i64 x4 4) = 0 then (if (Go.bits .and .i64 x4 8) = 0 then (some (x449000, x449001, x449002, x449003, x449004, x1001, x1002)) else ((spec_l1PickInt.f x1000 x1001 x1002 (([0, 1, 2, 4, 8, 9, 12, 20, 23] : List Int))).bind fun bt459 => (some (x449000, x449001, x449002, x449003, bt459.1, bt459.2.1, bt459.2.2)))) else ((spec_l1Below.f x1000 x1001 x1002 4).bind fun bt462 => (if (Go.bits .and .i64 x4 8) = 0 then (some (x449000, x449001, x449002, bt462.1, x449004, bt462.2.1, bt462.2.2)) else ((spec_l1PickInt.f x1000 bt462.2.1 bt462.2.2 (([0, 1, 2, 4, 8, 9, 12, 20, 23] : List Int))).bind fun bt468 => (some (x449000, x449001, x449002, bt462.1, bt468.1, bt468.2.1, bt468.2.2)))))
end
def spec_l8DrawIns.f (k : Nat) (s0_0 : List Int) (s0_1 : Int) (s0_2 : Int) : Option (Int × Int × Int × Int × Int × Int × Int) := (spec_l1PickInt.f s0_0 s0_1 s0_2 (([1, 1, 2, 3, 3, 4, 4, 5, 5, 5, 6, 6, 7, 8, 9, 10] : List Int))).bind fun bt445 => ((spec_l8Has.f bt445.1).bind fun t449 => (if (Go.bits .and .i64 t449 1) = 0 then (spec_l8DrawIns.j0 k t449 s0_0 bt445.2.1 bt445.2.2 bt445.1 0 0 0 0) else ((spec_l1Below.f s0_0 bt445.2.1 bt445.2.2 4).bind fun bt450 => (spec_l8DrawIns.j0 k t449 s0_0 bt450.2.1 bt450.2.2 bt445.1 bt450.1 0 0 0))))
theorem spec_l8DrawIns.mono_l : ∀ k, (∀ y0 y1 y2 y3 y4 y5 y6 y7 y8, LeO (spec_l8DrawIns.j0 k y0 y1 y2 y3 y4 y5 y6 y7 y8) (spec_l8DrawIns.j0 (k + 1) y0 y1 y2 y3 y4 y5 y6 y7 y8)) ∧ (∀ y0 y1 y2 y3 y4 y5 y6 y7 y8, LeO (spec_l8DrawIns.j1 k y0 y1 y2 y3 y4 y5 y6 y7 y8) (spec_l8DrawIns.j1 (k + 1) y0 y1 y2 y3 y4 y5 y6 y7 y8))
 | 0 => ⟨fun _ _ _ _ _ _ _ _ _ r h => by simp [spec_l8DrawIns.j0] at h, fun _ _ _ _ _ _ _ _ _ r h => by simp [spec_l8DrawIns.j1] at h⟩
 | k + 1 => by
  obtain ⟨ih0, ih1⟩ := spec_l8DrawIns.mono_l k
  refine ⟨?_, ?_⟩
  ·intros
   unfold spec_l8DrawIns.j0
   exact zL
  ·intros
   unfold spec_l8DrawIns.j1
   exact zL
theorem spec_l8DrawIns.mono : ∀ a0 a1 a2 k, LeO (spec_l8DrawIns.f k a0 a1 a2) (spec_l8DrawIns.f (k + 1) a0 a1 a2) := by
 intro a0 a1 a2 k
 obtain ⟨ih0, ih1⟩ := spec_l8DrawIns.mono_l k
 unfold spec_l8DrawIns.f
 exact zL
theorem spec_l8DrawIns.calls (k : Nat) (g : Nat) (s0_0 : List Int) (s0_1 : Int) (s0_2 : Int) (r1 : Int) (r2 : Int) (r3 : Int) (r4 : Int) (r5 : Int) (r6 : Int) (r7 : Int) (w0 w : World) (hI : IsS102 w0 w g s0_0 s0_1 s0_2) (hB : Below w0.heap.size w0 w) (h : spec_l8DrawIns.f k s0_0 s0_1 s0_2 = some (r1, r2, r3, r4, r5, r6, r7)) :
  Calls Try.prog 129 #[.pointer (some ⟨g, 0, none⟩)] w fun e w' => e = .returned (.agg #[.int .i64 r1, .int .i64 r2, .int .i64 r3, .int .i64 r4, .int .i64 r5]) ∧ IsS102 w0 w' g s0_0 r6 r7 ∧ Below w0.heap.size w0 w' ∧ KeepBut w w' g none := by
 have hu59 := Try.underlying59
 have HI0 := zM hI
 have HK := zM (KeepBut.refl w g none)
 have HL := zM hB.size
 clear hI
 have HW0 := zM hB.size
 have HB := zM hB
 clear hB
 unfold spec_l8DrawIns.f at h
 have H := h
 clear h
 generalize hy442 : ((([1, 1, 2, 3, 3, 4, 4, 5, 5, 5, 6, 6, 7, 8, 9, 10] : List Int)) : List Int) = y442 at H
 have Ny442 := zM hy442.symm
 clear hy442
 replace H := zO H
 obtain ⟨⟨t445, t446, t447⟩, A2, H⟩ := H
 try dsimp only at H
 replace H := zO H
 obtain ⟨t449, A3, H⟩ := H
 have HC4 := zM H
 clear H
 go_enter Try.func129, Try.ntmps129
 go_upto_if 14 with (first | ((with_reducible refine zBx 2 59 #[.int .i64 0, .int .i64 0, .int .i64 0, .int .i64 0, .int .i64 0] ?_); intro gb441 hg w5 hbox hb; replace HB := zM (below_step zB45 hb); have BK441 := zM hbox; have GW441 := zM ((by rw [hg]; exact (keep_size (w := w) (g := g) (row := none) zB46) : w.heap.size ≤ gb441)); have GE441 := zM ((Nat.le_trans HW0.1 (by rw [hg]; exact (keep_size (w := w) (g := g) (row := none) zB46) : w.heap.size ≤ gb441) : w0.heap.size ≤ gb441)); replace HK := zM (KeepBut.trans zB46 (KeepBut.of_below hb g none) (.inl rfl)); have NB0_441 := zM ((by rw [hg]; exact Nat.ne_of_lt (IsS102.lt (show IsS102 w0 _ g s0_0 s0_1 s0_2 from zB44)) : g ≠ gb441)); have NB441_0 := zM ((by rw [hg]; exact Nat.ne_of_gt (IsS102.lt (show IsS102 w0 _ g s0_0 s0_1 s0_2 from zB44)) : gb441 ≠ g)); replace HI0 := zM (IsS102.below zB44 hb); clear hb hbox hg) | ((with_reducible refine gate_dst (N := 6) rfl ?_); refine Kd.R_lit (Kd.int .i64) _ 3 ?hg (N := 6) ?hd (xs := ([1, 1, 2, 3, 3, 4, 4, 5, 5, 5, 6, 6, 7, 8, 9, 10] : List Int)) (inner := [.int .i64 1, .int .i64 1, .int .i64 2, .int .i64 3, .int .i64 3, .int .i64 4, .int .i64 4, .int .i64 5, .int .i64 5, .int .i64 5, .int .i64 6, .int .i64 6, .int .i64 7, .int .i64 8, .int .i64 9, .int .i64 10]) (ok := fun _ => True) (okp := fun _ => True) ?hr ?hp (fun _ hk => hk) trivial (Below.refl _ _) (Nat.le_refl _) (by simp) ?_; (case hd => rfl); (case hg => rfl); (case hr => exact zHH); (case hp => exact (Reps.one (show Kd.M (Kd.int .i64) _ _ _ 1 [.int .i64 1] from rfl) (Reps.one (show Kd.M (Kd.int .i64) _ _ _ 1 [.int .i64 1] from rfl) (Reps.one (show Kd.M (Kd.int .i64) _ _ _ 2 [.int .i64 2] from rfl) (Reps.one (show Kd.M (Kd.int .i64) _ _ _ 3 [.int .i64 3] from rfl) (Reps.one (show Kd.M (Kd.int .i64) _ _ _ 3 [.int .i64 3] from rfl) (Reps.one (show Kd.M (Kd.int .i64) _ _ _ 4 [.int .i64 4] from rfl) (Reps.one (show Kd.M (Kd.int .i64) _ _ _ 4 [.int .i64 4] from rfl) (Reps.one (show Kd.M (Kd.int .i64) _ _ _ 5 [.int .i64 5] from rfl) (Reps.one (show Kd.M (Kd.int .i64) _ _ _ 5 [.int .i64 5] from rfl) (Reps.one (show Kd.M (Kd.int .i64) _ _ _ 5 [.int .i64 5] from rfl) (Reps.one (show Kd.M (Kd.int .i64) _ _ _ 6 [.int .i64 6] from rfl) (Reps.one (show Kd.M (Kd.int .i64) _ _ _ 6 [.int .i64 6] from rfl) (Reps.one (show Kd.M (Kd.int .i64) _ _ _ 7 [.int .i64 7] from rfl) (Reps.one (show Kd.M (Kd.int .i64) _ _ _ 8 [.int .i64 8] from rfl) (Reps.one (show Kd.M (Kd.int .i64) _ _ _ 9 [.int .i64 9] from rfl) (Reps.one (show Kd.M (Kd.int .i64) _ _ _ 10 [.int .i64 10] from rfl) (Reps.none _ _)))))))))))))))))); intro v443 w6 ho7 hb hg_ hnew_; clear hg_ hnew_; (first | rw [← Ny442.1] at ho7 | (simp only [Int.reduceToNat] at ho7; rw [← Ny442.1] at ho7)); have HO444 := zM (Kd.R_lower ho7 (keep_size (w := w) (g := g) (row := none) zB46)); replace BK441 := zM (zb BK441.1 hb); replace HK := zM (KeepBut.trans zB46 (KeepBut.of_below hb g none) (.inl rfl)); replace HB := zM (below_step zB45 hb); replace HI0 := zM (IsS102.below zB62 hb); clear hb ho7; obtain ⟨Ao8, co8, eo8⟩ := Kd.R_slice HO444.1; subst eo8) | ((with_reducible refine zG Try.func66 7 #[.pointer (some ⟨g, 0, none⟩), .slice Ao8 y442.length co8] ?_); (with_reducible refine (spec_l1PickInt.calls g s0_0 s0_1 s0_2 _ _ y442 t445 t446 t447 w0 _ ?side1 ?side2 ?side3 ?side4 ?side5 A2.1).mono ?_); (case side1 => exact zB62); (case side2 => exact zB45); (case side3 => exact zC (Kd.R_reads' HO444.1).2.2); (case side4 => exact (Kd.R_reads' HO444.1).2.1); (case side5 => exact far_slice (IsS102.own_ne HI0.1 HO444.1 (by decide))); rintro e w9 ⟨rfl, hi, hb, hk⟩; refine ⟨_, rfl, ?_⟩; replace BK441 := zM (zh hk BK441.1 NB441_0.1); replace HO444 := zM (Kd.R_mono (Kd.R_keep (IsS102.apart (show IsS102 w0 _ g s0_0 s0_1 s0_2 from zB62) (zR HO444.1) (by decide)) hk (fun _ h => h.2)) (fun _ h => h.1)); replace HK := zM (KeepBut.trans zB46 hk (.inl rfl)); replace HB := zM hb; replace HI0 := zM hi; clear hb hk hi) | ((with_reducible refine zBx 3 59 #[.int .i64 0, .int .i64 0, .int .i64 0, .int .i64 0, .int .i64 0] ?_); intro gb448 hg w10 hbox hb; replace HO444 := zM (Kd.R_below (zR HO444.1) hb); replace HB := zM (below_step zB45 hb); have BK448 := zM hbox; have GW448 := zM ((by rw [hg]; exact (keep_size (w := w) (g := g) (row := none) zB46) : w.heap.size ≤ gb448)); have GE448 := zM ((Nat.le_trans HW0.1 (by rw [hg]; exact (keep_size (w := w) (g := g) (row := none) zB46) : w.heap.size ≤ gb448) : w0.heap.size ≤ gb448)); replace HK := zM (KeepBut.trans zB46 (KeepBut.of_below hb g none) (.inl rfl)); have NB441_448 := zM ((zn BK441.1 hg : gb441 ≠ gb448)); have NB448_441 := zM ((zm BK441.1 hg : gb448 ≠ gb441)); replace BK441 := zM (zb BK441.1 hb); have NB0_448 := zM ((by rw [hg]; exact Nat.ne_of_lt (IsS102.lt (show IsS102 w0 _ g s0_0 t446 t447 from zB62)) : g ≠ gb448)); have NB448_0 := zM ((by rw [hg]; exact Nat.ne_of_gt (IsS102.lt (show IsS102 w0 _ g s0_0 t446 t447 from zB62)) : gb448 ≠ g)); replace HI0 := zM (IsS102.below zB62 hb); clear hb hbox hg; have hnb11 := NB448_441.1; have hnc11 := NB441_448.1; have hnb12 := NB448_0.1; have hnc12 := NB0_448.1; have hcz13 := zc_5 (w := w10) BK448.1) | ((with_reducible refine zG Try.func131 11 #[.int .i64 t445] ?_); (with_reducible refine (spec_l8Has.calls t445 t449 _ A3.1).mono ?_); rintro e w14 ⟨rfl, hb⟩; refine ⟨_, rfl, ?_⟩; replace HO444 := zM (Kd.R_below (by refine zrR ?_; exact (Kd.R_mono (zfR (zfR (zfR (zfR (zfR (Kd.R_types HO444.1 BK448.1 (by decide))))))) (fun _ h_ => h_.1))) hb); replace BK441 := zM (zf BK441.1 hb); replace BK448 := zM (blk_below (g := gb448) (o := .cells #[.int .i64 t445, .int .i64 0, .int .i64 0, .int .i64 0, .int .i64 0] 59 (0, 0)) (by exact zp5 (zK BK448.1)) hb); replace HK := zM (KeepBut.trans zB46 (KeepBut.of_below hb g none) (.inl rfl)); replace HB := zM (below_step zB45 hb); replace HI0 := zM (IsS102.below (show IsS102 w0 (((((w10.setCell ⟨gb448, 0, none⟩ (.int .i64 t445)).setCell ⟨gb448, 1, none⟩ (.int .i64 0)).setCell ⟨gb448, 2, none⟩ (.int .i64 0)).setCell ⟨gb448, 3, none⟩ (.int .i64 0)).setCell ⟨gb448, 4, none⟩ (.int .i64 0)) g s0_0 t446 t447 from zB64) hb); clear hb))
 (try simp only [Act.put, List.setIfInBounds_toArray, List.set_cons_zero, List.set_cons_succ])
 go_cut [] (fun wc => ∃ (kq : Nat) (x1001_3 : Int) (x1002_3 : Int) (x449001_3 : Int), Aside0 (spec_l8DrawIns.j0 kq t449 s0_0 x1001_3 x1002_3 t445 x449001_3 0 0 0 = some (r1, r2, r3, r4, r5, r6, r7)) ∧ Aside0 (kq ≤ k) ∧ Aside0 (wc.heap[gb441]? = some (.cells #[.int .i64 0, .int .i64 0, .int .i64 0, .int .i64 0, .int .i64 0] 59 (0, 0))) ∧ Aside0 (wc.heap[gb448]? = some (.cells #[.int .i64 t445, .int .i64 x449001_3, .int .i64 0, .int .i64 0, .int .i64 0] 59 (0, 0))) ∧ Aside0 (IsS102 w0 wc g s0_0 x1001_3 x1002_3) ∧ Aside0 (KeepBut w wc g none) ∧ Aside0 (Below w0.heap.size w0 wc))
 case first =>
  have H := HC4.1
  clear HC4
  by_cases c15 : (Go.bits .and .i64 t449 1) = 0
  ·rw [if_pos c15] at H
   have c15b0 : ((Go.bits .and .i64 t449 1) == 0) = true := beq_iff_eq.mpr c15
   have c15b1 : ((Go.bits .and .i64 t449 1) != 0) = false := bne_eq_false_iff_eq.mpr c15
   clear c15
   (first | rw [c15b0] | (simp only [i64_w, i32_w]; rw [c15b0]) | skip)
   have H' := zM H
   clear H
   go_wp2
   go_meet
   case rel => exact ⟨_, (t446), (t447), (0), H', ⟨by first | omega | exact Nat.le_refl _⟩, ⟨zK BK441.1⟩, ⟨zK BK448.1⟩, ⟨zB64⟩, ⟨zB46⟩, ⟨zB45⟩⟩
  rw [if_neg c15] at H
  have c15b0 : ((Go.bits .and .i64 t449 1) == 0) = false := beq_eq_false_iff_ne.mpr c15
  have c15b1 : ((Go.bits .and .i64 t449 1) != 0) = true := bne_iff_ne.mpr c15
  (first | rw [c15b0] | (simp only [i64_w, i32_w]; rw [c15b0]) | skip)
  replace H := zO H
  obtain ⟨⟨t450, t451, t452⟩, A16, H⟩ := H
  try dsimp only at H
  have H' := zM H
  clear H
  go_wp2_with (first | ((with_reducible refine zG Try.func67 16 #[.pointer (some ⟨g, 0, none⟩), .int .i64 4] ?_); (with_reducible refine (spec_l1Below.calls g s0_0 t446 t447 4 t450 t451 t452 w0 _ ?side1 ?side2 A16.1).mono ?_); (case side1 => exact zB64); (case side2 => exact zB45); rintro e w17 ⟨rfl, hi, hb, hk⟩; refine ⟨_, rfl, ?_⟩; replace BK441 := zM (zh hk BK441.1 NB441_0.1); replace HO444 := zM (Kd.R_mono (Kd.R_keep (IsS102.apart (show IsS102 w0 _ g s0_0 t446 t447 from zB64) (zR HO444.1) (by decide)) hk (fun _ h => h.2)) (fun _ h => h.1)); replace BK448 := zM (zh hk BK448.1 NB448_0.1); replace HK := zM (KeepBut.trans zB46 hk (.inl rfl)); replace HB := zM hb; replace HI0 := zM hi; clear hb hk hi; have hnb18 := NB448_441.1; have hnc18 := NB441_448.1; have hnb19 := NB448_0.1; have hnc19 := NB0_448.1; have hcz20 := zc_5 (w := w17) BK448.1))
  go_meet
  case rel => exact ⟨_, (t451), (t452), (t450), H', ⟨by first | omega | exact Nat.le_refl _⟩, ⟨by refine zP ?_; refine blk_far ?_ NB441_448.1 _; refine zP ?_; exact BK441.1⟩, ⟨by refine zP ?_; refine blk_put (cs := #[.int .i64 t445, .int .i64 0, .int .i64 0, .int .i64 0, .int .i64 0]) ?_ 1 _ rfl; refine zP ?_; exact BK448.1⟩, ⟨zB64⟩, ⟨zB46⟩, ⟨zB45⟩⟩
 case rest =>
  clear HC4
  obtain ⟨kq, x1001_3, x1002_3, x449001_3, HA, HJ3, BK441, BK448, HI0, HK, HB⟩ := hcut
  cases kq with
  | zero => exact absurd HA.1 (by simp [spec_l8DrawIns.j0])
  | succ kj3 =>
   have H := HA.1
   clear HA
   simp only [spec_l8DrawIns.j0] at H
   have HC21 := zM H
   clear H
   go_upto_if 20 with (fail)
   go_cut [] (fun wc => ∃ (kq : Nat) (x1001_20 : Int) (x1002_20 : Int) (x449002_20 : Int), Aside0 (spec_l8DrawIns.j1 kq t449 s0_0 x1001_20 x1002_20 t445 x449001_3 x449002_20 0 0 = some (r1, r2, r3, r4, r5, r6, r7)) ∧ Aside0 (kq ≤ kj3) ∧ Aside0 (wc.heap[gb441]? = some (.cells #[.int .i64 0, .int .i64 0, .int .i64 0, .int .i64 0, .int .i64 0] 59 (0, 0))) ∧ Aside0 (wc.heap[gb448]? = some (.cells #[.int .i64 t445, .int .i64 x449001_3, .int .i64 x449002_20, .int .i64 0, .int .i64 0] 59 (0, 0))) ∧ Aside0 (IsS102 w0 wc g s0_0 x1001_20 x1002_20) ∧ Aside0 (KeepBut w wc g none) ∧ Aside0 (Below w0.heap.size w0 wc))
   case first =>
    have H := HC21.1
    clear HC21
    by_cases c22 : (Go.bits .and .i64 t449 2) = 0
    ·rw [if_pos c22] at H
     have c22b0 : ((Go.bits .and .i64 t449 2) == 0) = true := beq_iff_eq.mpr c22
     have c22b1 : ((Go.bits .and .i64 t449 2) != 0) = false := bne_eq_false_iff_eq.mpr c22
     clear c22
     (first | rw [c22b0] | (simp only [i64_w, i32_w]; rw [c22b0]) | skip)
     have H' := zM H
     clear H
     go_wp2
     go_meet
     case rel => exact ⟨_, (x1001_3), (x1002_3), (0), H', ⟨by have := HJ3.1; first | omega | exact Nat.le_refl _⟩, ⟨zK BK441.1⟩, ⟨zK BK448.1⟩, ⟨zB64⟩, ⟨zB46⟩, ⟨zB45⟩⟩
    rw [if_neg c22] at H
    have c22b0 : ((Go.bits .and .i64 t449 2) == 0) = false := beq_eq_false_iff_ne.mpr c22
    have c22b1 : ((Go.bits .and .i64 t449 2) != 0) = true := bne_iff_ne.mpr c22
    (first | rw [c22b0] | (simp only [i64_w, i32_w]; rw [c22b0]) | skip)
    replace H := zO H
    obtain ⟨⟨t453, t454, t455⟩, A23, H⟩ := H
    try dsimp only at H
    have H' := zM H
    clear H
    go_wp2_with (first | ((with_reducible refine zG Try.func67 22 #[.pointer (some ⟨g, 0, none⟩), .int .i64 4] ?_); (with_reducible refine (spec_l1Below.calls g s0_0 x1001_3 x1002_3 4 t453 t454 t455 w0 _ ?side1 ?side2 A23.1).mono ?_); (case side1 => exact zB64); (case side2 => exact zB45); rintro e w24 ⟨rfl, hi, hb, hk⟩; refine ⟨_, rfl, ?_⟩; replace BK441 := zM (zh hk BK441.1 NB441_0.1); replace BK448 := zM (zh hk BK448.1 NB448_0.1); replace HK := zM (KeepBut.trans zB46 hk (.inl rfl)); replace HB := zM hb; replace HI0 := zM hi; clear hb hk hi; have hnb25 := NB448_441.1; have hnc25 := NB441_448.1; have hnb26 := NB448_0.1; have hnc26 := NB0_448.1; have hcz27 := zc_5 (w := w24) BK448.1))
    go_meet
    case rel => exact ⟨_, (t454), (t455), (t453), H', ⟨by have := HJ3.1; first | omega | exact Nat.le_refl _⟩, ⟨by refine zP ?_; refine blk_far ?_ NB441_448.1 _; refine zP ?_; exact BK441.1⟩, ⟨by refine zP ?_; refine blk_put (cs := #[.int .i64 t445, .int .i64 x449001_3, .int .i64 0, .int .i64 0, .int .i64 0]) ?_ 2 _ rfl; refine zP ?_; exact BK448.1⟩, ⟨zB64⟩, ⟨zB46⟩, ⟨zB45⟩⟩
   case rest =>
    clear HC21
    obtain ⟨kq, x1001_20, x1002_20, x449002_20, HA, HJ20, BK441, BK448, HI0, HK, HB⟩ := hcut
    cases kq with
    | zero => exact absurd HA.1 (by simp [spec_l8DrawIns.j1])
    | succ kj20 =>
     have H := HA.1
     clear HA
     simp only [spec_l8DrawIns.j1] at H
     by_cases c28 : (Go.bits .and .i64 t449 4) = 0
     ·rw [if_pos c28] at H
      have c28b0 : ((Go.bits .and .i64 t449 4) == 0) = true := beq_iff_eq.mpr c28
      have c28b1 : ((Go.bits .and .i64 t449 4) != 0) = false := bne_eq_false_iff_eq.mpr c28
      clear c28
      by_cases c29 : (Go.bits .and .i64 t449 8) = 0
      ·rw [if_pos c29] at H
       have c29b0 : ((Go.bits .and .i64 t449 8) == 0) = true := beq_iff_eq.mpr c29
       have c29b1 : ((Go.bits .and .i64 t449 8) != 0) = false := bne_eq_false_iff_eq.mpr c29
       clear c29
       simp only [Option.some.injEq, Prod.mk.injEq] at H
       obtain ⟨rfl, rfl, rfl, rfl, rfl, rfl, rfl⟩ := H
       have hnb30 := NB448_441.1
       have hnc30 := NB441_448.1
       have hnb31 := NB448_0.1
       have hnc31 := NB0_448.1
       have hcz32 := zc_5 (w := wc) BK448.1
       have hnb33 := NB441_0.1
       have hnc33 := NB0_441.1
       have hcz34 := zc_5 (w := wc) BK441.1
       go_wp2
       refine bodyPost_ret (results_cell_row rfl _ _ gb441 59 #[.int .i64 t445, .int .i64 x449001_3, .int .i64 x449002_20, .int .i64 0, .int .i64 0] (0, 0) _ rfl (by exact zp5 (zK BK441.1)) Try.underlying59 rfl (by kernel_rfl)) rfl ?_
       exact ⟨zE, zB64, zB45, zB46⟩
      rw [if_neg c29] at H
      have c29b0 : ((Go.bits .and .i64 t449 8) == 0) = false := beq_eq_false_iff_ne.mpr c29
      have c29b1 : ((Go.bits .and .i64 t449 8) != 0) = true := bne_iff_ne.mpr c29
      generalize hy456 : ((([0, 1, 2, 4, 8, 9, 12, 20, 23] : List Int)) : List Int) = y456 at H
      have Ny456 := zM hy456.symm
      clear hy456
      replace H := zO H
      obtain ⟨⟨t459, t460, t461⟩, A35, H⟩ := H
      try dsimp only at H
      simp only [Option.some.injEq, Prod.mk.injEq] at H
      obtain ⟨rfl, rfl, rfl, rfl, rfl, rfl, rfl⟩ := H
      go_wp2_with (first | ((with_reducible refine gate_dst (N := 34) rfl ?_); refine Kd.R_lit (Kd.int .i64) _ 3 ?hg (N := 34) ?hd (xs := ([0, 1, 2, 4, 8, 9, 12, 20, 23] : List Int)) (inner := [.int .i64 0, .int .i64 1, .int .i64 2, .int .i64 4, .int .i64 8, .int .i64 9, .int .i64 12, .int .i64 20, .int .i64 23]) (ok := fun _ => True) (okp := fun _ => True) ?hr ?hp (fun _ hk => hk) trivial (Below.refl _ _) (Nat.le_refl _) (by simp) ?_; (case hd => rfl); (case hg => rfl); (case hr => exact zHH); (case hp => exact (Reps.one (show Kd.M (Kd.int .i64) _ _ _ 0 [.int .i64 0] from rfl) (Reps.one (show Kd.M (Kd.int .i64) _ _ _ 1 [.int .i64 1] from rfl) (Reps.one (show Kd.M (Kd.int .i64) _ _ _ 2 [.int .i64 2] from rfl) (Reps.one (show Kd.M (Kd.int .i64) _ _ _ 4 [.int .i64 4] from rfl) (Reps.one (show Kd.M (Kd.int .i64) _ _ _ 8 [.int .i64 8] from rfl) (Reps.one (show Kd.M (Kd.int .i64) _ _ _ 9 [.int .i64 9] from rfl) (Reps.one (show Kd.M (Kd.int .i64) _ _ _ 12 [.int .i64 12] from rfl) (Reps.one (show Kd.M (Kd.int .i64) _ _ _ 20 [.int .i64 20] from rfl) (Reps.one (show Kd.M (Kd.int .i64) _ _ _ 23 [.int .i64 23] from rfl) (Reps.none _ _))))))))))); intro v457 w36 ho37 hb hg_ hnew_; clear hg_ hnew_; (first | rw [← Ny456.1] at ho37 | (simp only [Int.reduceToNat] at ho37; rw [← Ny456.1] at ho37)); have HO458 := zM (Kd.R_lower ho37 (keep_size (w := w) (g := g) (row := none) zB46)); replace BK441 := zM (zb BK441.1 hb); replace BK448 := zM (zb BK448.1 hb); replace HK := zM (KeepBut.trans zB46 (KeepBut.of_below hb g none) (.inl rfl)); replace HB := zM (below_step zB45 hb); replace HI0 := zM (IsS102.below zB64 hb); clear hb ho37; obtain ⟨Ao38, co38, eo38⟩ := Kd.R_slice HO458.1; subst eo38) | ((with_reducible refine zG Try.func66 35 #[.pointer (some ⟨g, 0, none⟩), .slice Ao38 y456.length co38] ?_); (with_reducible refine (spec_l1PickInt.calls g s0_0 x1001_20 x1002_20 _ _ y456 t459 t460 t461 w0 _ ?side1 ?side2 ?side3 ?side4 ?side5 A35.1).mono ?_); (case side1 => exact zB64); (case side2 => exact zB45); (case side3 => exact zC (Kd.R_reads' HO458.1).2.2); (case side4 => exact (Kd.R_reads' HO458.1).2.1); (case side5 => exact far_slice (IsS102.own_ne HI0.1 HO458.1 (by decide))); rintro e w39 ⟨rfl, hi, hb, hk⟩; refine ⟨_, rfl, ?_⟩; replace BK441 := zM (zh hk BK441.1 NB441_0.1); replace BK448 := zM (zh hk BK448.1 NB448_0.1); replace HO458 := zM (Kd.R_mono (Kd.R_keep (IsS102.apart (show IsS102 w0 _ g s0_0 x1001_20 x1002_20 from zB64) (zR HO458.1) (by decide)) hk (fun _ h => h.2)) (fun _ h => h.1)); replace HK := zM (KeepBut.trans zB46 hk (.inl rfl)); replace HB := zM hb; replace HI0 := zM hi; clear hb hk hi; have hnb40 := NB448_441.1; have hnc40 := NB441_448.1; have hnb41 := NB448_0.1; have hnc41 := NB0_448.1; have hcz42 := zc_5 (w := w39) BK448.1; have hnb43 := NB441_0.1; have hnc43 := NB0_441.1; have hcz44 := zc_5 (w := w39) BK441.1))
      refine bodyPost_ret (results_cell_row rfl _ _ gb441 59 #[.int .i64 t445, .int .i64 x449001_3, .int .i64 x449002_20, .int .i64 0, .int .i64 t459] (0, 0) _ rfl zPq Try.underlying59 rfl (by kernel_rfl)) rfl ?_
      exact ⟨zE, zB64, zB45, zB46⟩
     rw [if_neg c28] at H
     have c28b0 : ((Go.bits .and .i64 t449 4) == 0) = false := beq_eq_false_iff_ne.mpr c28
     have c28b1 : ((Go.bits .and .i64 t449 4) != 0) = true := bne_iff_ne.mpr c28
     replace H := zO H
     obtain ⟨⟨t462, t463, t464⟩, A45, H⟩ := H
     try dsimp only at H
     by_cases c46 : (Go.bits .and .i64 t449 8) = 0
     ·rw [if_pos c46] at H
      have c46b0 : ((Go.bits .and .i64 t449 8) == 0) = true := beq_iff_eq.mpr c46
      have c46b1 : ((Go.bits .and .i64 t449 8) != 0) = false := bne_eq_false_iff_eq.mpr c46
      clear c46
      simp only [Option.some.injEq, Prod.mk.injEq] at H
      obtain ⟨rfl, rfl, rfl, rfl, rfl, rfl, rfl⟩ := H
      go_wp2_with (first | ((with_reducible refine zG Try.func67 28 #[.pointer (some ⟨g, 0, none⟩), .int .i64 4] ?_); (with_reducible refine (spec_l1Below.calls g s0_0 x1001_20 x1002_20 4 t462 t463 t464 w0 _ ?side1 ?side2 A45.1).mono ?_); (case side1 => exact zB64); (case side2 => exact zB45); rintro e w47 ⟨rfl, hi, hb, hk⟩; refine ⟨_, rfl, ?_⟩; replace BK441 := zM (zh hk BK441.1 NB441_0.1); replace BK448 := zM (zh hk BK448.1 NB448_0.1); replace HK := zM (KeepBut.trans zB46 hk (.inl rfl)); replace HB := zM hb; replace HI0 := zM hi; clear hb hk hi; have hnb48 := NB448_441.1; have hnc48 := NB441_448.1; have hnb49 := NB448_0.1; have hnc49 := NB0_448.1; have hcz50 := zc_5 (w := w47) BK448.1; have hnb51 := NB441_0.1; have hnc51 := NB0_441.1; have hcz52 := zc_5 (w := w47) BK441.1))
      refine bodyPost_ret (results_cell_row rfl _ _ gb441 59 #[.int .i64 t445, .int .i64 x449001_3, .int .i64 x449002_20, .int .i64 t462, .int .i64 0] (0, 0) _ rfl zPq Try.underlying59 rfl (by kernel_rfl)) rfl ?_
      exact ⟨zE, zB64, zB45, zB46⟩
     rw [if_neg c46] at H
     have c46b0 : ((Go.bits .and .i64 t449 8) == 0) = false := beq_eq_false_iff_ne.mpr c46
     have c46b1 : ((Go.bits .and .i64 t449 8) != 0) = true := bne_iff_ne.mpr c46
     generalize hy465 : ((([0, 1, 2, 4, 8, 9, 12, 20, 23] : List Int)) : List Int) = y465 at H
     have Ny465 := zM hy465.symm
     clear hy465
     replace H := zO H
     obtain ⟨⟨t468, t469, t470⟩, A53, H⟩ := H
     try dsimp only at H
     simp only [Option.some.injEq, Prod.mk.injEq] at H
     obtain ⟨rfl, rfl, rfl, rfl, rfl, rfl, rfl⟩ := H
     go_wp2_with (first | ((with_reducible refine zG Try.func67 28 #[.pointer (some ⟨g, 0, none⟩), .int .i64 4] ?_); (with_reducible refine (spec_l1Below.calls g s0_0 x1001_20 x1002_20 4 t462 t463 t464 w0 _ ?side1 ?side2 A45.1).mono ?_); (case side1 => exact zB64); (case side2 => exact zB45); rintro e w54 ⟨rfl, hi, hb, hk⟩; refine ⟨_, rfl, ?_⟩; replace BK441 := zM (zh hk BK441.1 NB441_0.1); replace BK448 := zM (zh hk BK448.1 NB448_0.1); replace HK := zM (KeepBut.trans zB46 hk (.inl rfl)); replace HB := zM hb; replace HI0 := zM hi; clear hb hk hi; have hnb55 := NB448_441.1; have hnc55 := NB441_448.1; have hnb56 := NB448_0.1; have hnc56 := NB0_448.1; have hcz57 := zc_5 (w := w54) BK448.1) | ((with_reducible refine gate_dst (N := 34) rfl ?_); refine Kd.R_lit (Kd.int .i64) _ 3 ?hg (N := 34) ?hd (xs := ([0, 1, 2, 4, 8, 9, 12, 20, 23] : List Int)) (inner := [.int .i64 0, .int .i64 1, .int .i64 2, .int .i64 4, .int .i64 8, .int .i64 9, .int .i64 12, .int .i64 20, .int .i64 23]) (ok := fun _ => True) (okp := fun _ => True) ?hr ?hp (fun _ hk => hk) trivial (Below.refl _ _) (Nat.le_refl _) (by simp) ?_; (case hd => rfl); (case hg => rfl); (case hr => exact zHH); (case hp => exact (Reps.one (show Kd.M (Kd.int .i64) _ _ _ 0 [.int .i64 0] from rfl) (Reps.one (show Kd.M (Kd.int .i64) _ _ _ 1 [.int .i64 1] from rfl) (Reps.one (show Kd.M (Kd.int .i64) _ _ _ 2 [.int .i64 2] from rfl) (Reps.one (show Kd.M (Kd.int .i64) _ _ _ 4 [.int .i64 4] from rfl) (Reps.one (show Kd.M (Kd.int .i64) _ _ _ 8 [.int .i64 8] from rfl) (Reps.one (show Kd.M (Kd.int .i64) _ _ _ 9 [.int .i64 9] from rfl) (Reps.one (show Kd.M (Kd.int .i64) _ _ _ 12 [.int .i64 12] from rfl) (Reps.one (show Kd.M (Kd.int .i64) _ _ _ 20 [.int .i64 20] from rfl) (Reps.one (show Kd.M (Kd.int .i64) _ _ _ 23 [.int .i64 23] from rfl) (Reps.none _ _))))))))))); intro v466 w58 ho59 hb hg_ hnew_; clear hg_ hnew_; (first | rw [← Ny465.1] at ho59 | (simp only [Int.reduceToNat] at ho59; rw [← Ny465.1] at ho59)); have HO467 := zM (Kd.R_lower ho59 (keep_size (w := w) (g := g) (row := none) zB46)); replace BK441 := zM (zf BK441.1 hb); replace BK448 := zM (blk_below (g := gb448) (o := .cells #[.int .i64 t445, .int .i64 x449001_3, .int .i64 x449002_20, .int .i64 t462, .int .i64 0] 59 (0, 0)) zPq hb); replace HK := zM (KeepBut.trans zB46 (KeepBut.of_below hb g none) (.inl rfl)); replace HB := zM (below_step zB45 hb); replace HI0 := zM (IsS102.below (show IsS102 w0 (w54.setCell ⟨gb448, 3, none⟩ (.int .i64 t462)) g s0_0 t463 t464 from zB64) hb); clear hb ho59; obtain ⟨Ao60, co60, eo60⟩ := Kd.R_slice HO467.1; subst eo60) | ((with_reducible refine zG Try.func66 35 #[.pointer (some ⟨g, 0, none⟩), .slice Ao60 y465.length co60] ?_); (with_reducible refine (spec_l1PickInt.calls g s0_0 t463 t464 _ _ y465 t468 t469 t470 w0 _ ?side1 ?side2 ?side3 ?side4 ?side5 A53.1).mono ?_); (case side1 => exact zB64); (case side2 => exact zB45); (case side3 => exact zC (Kd.R_reads' HO467.1).2.2); (case side4 => exact (Kd.R_reads' HO467.1).2.1); (case side5 => exact far_slice (IsS102.own_ne HI0.1 HO467.1 (by decide))); rintro e w61 ⟨rfl, hi, hb, hk⟩; refine ⟨_, rfl, ?_⟩; replace BK441 := zM (zh hk BK441.1 NB441_0.1); replace BK448 := zM (zh hk BK448.1 NB448_0.1); replace HO467 := zM (Kd.R_mono (Kd.R_keep (IsS102.apart (show IsS102 w0 _ g s0_0 t463 t464 from zB64) (zR HO467.1) (by decide)) hk (fun _ h => h.2)) (fun _ h => h.1)); replace HK := zM (KeepBut.trans zB46 hk (.inl rfl)); replace HB := zM hb; replace HI0 := zM hi; clear hb hk hi; have hcz62 := zc_5 (w := w61) BK448.1; have hnb63 := NB441_0.1; have hnc63 := NB0_441.1; have hcz64 := zc_5 (w := w61) BK441.1))
     refine bodyPost_ret (results_cell_row rfl _ _ gb441 59 #[.int .i64 t445, .int .i64 x449001_3, .int .i64 x449002_20, .int .i64 t462, .int .i64 t468] (0, 0) _ rfl zPq Try.underlying59 rfl (by kernel_rfl)) rfl ?_
     exact ⟨zE, zB64, zB45, zB46⟩

/-! ### spec_l9DrawMem: function 111 -/
mutual
def spec_l9DrawMem.l0 : Nat → List Int → Int → List Int → Int → Int → Option (List Int × Int × Int)
 | 0, _, _, _, _, _ => none
 | k + 1, x3, x4, x1000, x1001, x1002 => if x4 < 24 then ((spec_l8DrawIns.f k x1000 x1001 x1002).bind fun bt474 => ((spec_Code.f bt474.1 bt474.2.1 bt474.2.2.1 bt474.2.2.2.1 bt474.2.2.2.2.1).bind fun bt481 => (if x4 > 15 then ((spec_l1PickInt.f x1000 bt474.2.2.2.2.2.1 bt474.2.2.2.2.2.2 (([0, 1, 5, 65535] : List Int))).bind fun bt486 => (if x3.length < 17592186044416 then (spec_l9DrawMem.l0 k (x3 ++ [bt486.1]) (wrap64 (x4 + 1)) x1000 bt486.2.1 bt486.2.2) else (none))) else ((spec_l1Once.f x1000 bt474.2.2.2.2.2.1 bt474.2.2.2.2.2.2 9).bind fun bt492 => (if bt492.1 = true then ((spec_l1PickInt.f x1000 bt492.2.1 bt492.2.2 (([0, 1, 5, 65535] : List Int))).bind fun bt498 => (if x3.length < 17592186044416 then (spec_l9DrawMem.l0 k (x3 ++ [bt498.1]) (wrap64 (x4 + 1)) x1000 bt498.2.1 bt498.2.2) else (none))) else (if x3.length < 17592186044416 then (spec_l9DrawMem.l0 k (x3 ++ [bt481.1]) (wrap64 (x4 + 1)) x1000 bt492.2.1 bt492.2.2) else (none))))))) else ((spec_l1Below.f x1000 x1001 x1002 4).bind fun bt507 => (if bt507.1 = 0 then (spec_l9DrawMem.l1 k x3 (([(⟨1, 1, 0, 0, 1⟩ : S59), (⟨6, 2, 0, 1, 20⟩ : S59), (⟨10, 3, 2, 1, 0⟩ : S59), (⟨8, 0, 0, 0, 1⟩ : S59)] : List (S59))) 0 x1000 bt507.2.1 bt507.2.2) else (if bt507.1 = 1 then (spec_l9DrawMem.l2 k x3 (([(⟨4, 1, 0, 0, 8⟩ : S59), (⟨3, 1, 1, 0, 1⟩ : S59), (⟨5, 0, 0, 1, 8⟩ : S59), (⟨8, 0, 0, 0, 8⟩ : S59)] : List (S59))) 0 x1000 bt507.2.1 bt507.2.2) else (some (x3, bt507.2.1, bt507.2.2)))))
def spec_l9DrawMem.l1 : Nat → List Int → List (S59) → Int → List Int → Int → Int → Option (List Int × Int × Int)
 | 0, _, _, _, _, _, _ => none
 | k + 1, x3, x7, x8, x1000, x1001, x1002 => if x8 < (x7.length : Int) then (if 0 ≤ x8 then ((spec_Code.f ((rd_T59 x7 x8).f0) ((rd_T59 x7 x8).f1) ((rd_T59 x7 x8).f2) ((rd_T59 x7 x8).f3) ((rd_T59 x7 x8).f4)).bind fun bt514 => (if x8 < (x3.length : Int) then (spec_l9DrawMem.l1 k (x3.set (x8 : Int).toNat bt514.1) x7 (wrap64 (x8 + 1)) x1000 x1001 x1002) else (none))) else (none)) else (some (x3, x1001, x1002))
def spec_l9DrawMem.l2 : Nat → List Int → List (S59) → Int → List Int → Int → Int → Option (List Int × Int × Int)
 | 0, _, _, _, _, _, _ => none
 | k + 1, x3, x9, x10, x1000, x1001, x1002 => if x10 < (x9.length : Int) then (if 0 ≤ x10 then ((spec_Code.f ((rd_T59 x9 x10).f0) ((rd_T59 x9 x10).f1) ((rd_T59 x9 x10).f2) ((rd_T59 x9 x10).f3) ((rd_T59 x9 x10).f4)).bind fun bt521 => (if x10 < (x3.length : Int) then (spec_l9DrawMem.l2 k (x3.set (x10 : Int).toNat bt521.1) x9 (wrap64 (x10 + 1)) x1000 x1001 x1002) else (none))) else (none)) else (some (x3, x1001, x1002))
end
def spec_l9DrawMem.f (k : Nat) (s0_0 : List Int) (s0_1 : Int) (s0_2 : Int) : Option (List Int × Int × Int) := spec_l9DrawMem.l0 k (([] : List Int)) 0 s0_0 s0_1 s0_2
theorem spec_l9DrawMem.mono_l : ∀ k, (∀ y0 y1 y2 y3 y4, LeO (spec_l9DrawMem.l0 k y0 y1 y2 y3 y4) (spec_l9DrawMem.l0 (k + 1) y0 y1 y2 y3 y4)) ∧ (∀ y0 y1 y2 y3 y4 y5, LeO (spec_l9DrawMem.l1 k y0 y1 y2 y3 y4 y5) (spec_l9DrawMem.l1 (k + 1) y0 y1 y2 y3 y4 y5)) ∧ (∀ y0 y1 y2 y3 y4 y5, LeO (spec_l9DrawMem.l2 k y0 y1 y2 y3 y4 y5) (spec_l9DrawMem.l2 (k + 1) y0 y1 y2 y3 y4 y5))
 | 0 => ⟨fun _ _ _ _ _ r h => by simp [spec_l9DrawMem.l0] at h, fun _ _ _ _ _ _ r h => by simp [spec_l9DrawMem.l1] at h, fun _ _ _ _ _ _ r h => by simp [spec_l9DrawMem.l2] at h⟩
 | k + 1 => by
  obtain ⟨ih0, ih1, ih2⟩ := spec_l9DrawMem.mono_l k
  refine ⟨?_, ?_, ?_⟩
  ·intros
   unfold spec_l9DrawMem.l0
   have mo0 := @spec_l8DrawIns.mono
   exact zL
  ·intros
   unfold spec_l9DrawMem.l1
   have mo0 := @spec_l8DrawIns.mono
   exact zL
  ·intros
   unfold spec_l9DrawMem.l2
   have mo0 := @spec_l8DrawIns.mono
   exact zL
theorem spec_l9DrawMem.mono : ∀ a0 a1 a2 k, LeO (spec_l9DrawMem.f k a0 a1 a2) (spec_l9DrawMem.f (k + 1) a0 a1 a2) := by
 intro a0 a1 a2 k
 obtain ⟨ih0, ih1, ih2⟩ := spec_l9DrawMem.mono_l k
 unfold spec_l9DrawMem.f
 have mo0 := @spec_l8DrawIns.mono
 exact zL
theorem spec_l9DrawMem.calls (k : Nat) (g : Nat) (s0_0 : List Int) (s0_1 : Int) (s0_2 : Int) (r1 : List Int) (r2 : Int) (r3 : Int) (w0 w : World) (hI : IsS102 w0 w g s0_0 s0_1 s0_2) (hB : Below w0.heap.size w0 w) (h : spec_l9DrawMem.f k s0_0 s0_1 s0_2 = some (r1, r2, r3)) :
  Calls Try.prog 111 #[.pointer (some ⟨g, 0, none⟩)] w fun e w' => ∃ v0_ : Value, e = .returned (v0_) ∧ Kd.R (Kd.int .i64) 3 w' w.heap.size (fun _ => True) v0_ r1 ∧ IsS102 w0 w' g s0_0 r2 r3 ∧ Below w0.heap.size w0 w' ∧ KeepBut w w' g none := by
 have hu59 := Try.underlying59
 have HI0 := zM hI
 have HK := zM (KeepBut.refl w g none)
 have HL := zM hB.size
 clear hI
 have HW0 := zM hB.size
 have HB := zM hB
 clear hB
 unfold spec_l9DrawMem.f at h
 have H := h
 clear h
 generalize hy471 : ((([] : List Int)) : List Int) = y471 at H
 have Ny471 := zM hy471.symm
 clear hy471
 have H' := zM H
 clear H
 go_enter Try.func111, Try.ntmps111
 go_wp2_with (first | ((with_reducible refine gate_dst (N := 11) rfl ?_); refine Kd.R_lit (Kd.int .i64) _ 3 ?hg (N := 11) ?hd (xs := ([] : List Int)) (inner := []) (ok := fun _ => True) (okp := fun _ => True) ?hr ?hp (fun _ hk => hk) trivial (Below.refl _ _) (Nat.le_refl _) (by simp) ?_; (case hd => rfl); (case hg => rfl); (case hr => exact zHH); (case hp => exact (Reps.none _ _)); intro v472 w2 ho3 hb hg_ hnew_; clear hg_ hnew_; (first | rw [← Ny471.1] at ho3 | (simp only [Int.reduceToNat] at ho3; rw [← Ny471.1] at ho3)); have HO473 := zM (Kd.R_lower ho3 (keep_size (w := w) (g := g) (row := none) zB46)); replace HK := zM (KeepBut.trans zB46 (KeepBut.of_below hb g none) (.inl rfl)); replace HB := zM (below_step zB45 hb); replace HI0 := zM (IsS102.below zB44 hb); clear hb ho3))
 go_loopg [3, 4] k (fun kq v3 v4 w' => ∃ (x3_1 : List Int) (x4_1 : Int) (x1001_1 : Int) (x1002_1 : Int), v4 = .int .i64 x4_1 ∧ Aside0 (spec_l9DrawMem.l0 kq x3_1 x4_1 s0_0 x1001_1 x1002_1 = some (r1, r2, r3)) ∧ Aside0 (kq ≤ k) ∧ Aside0 (Kd.R (Kd.int .i64) 3 w' w.heap.size (fun _ => True) v3 x3_1) ∧ Aside0 (IsS102 w0 w' g s0_0 x1001_1 x1002_1) ∧ Aside0 (KeepBut w w' g none) ∧ Aside0 (Below w0.heap.size w0 w'))
 case atStart => exact ⟨(y471), (0), (s0_1), (s0_2), zJJ, H', ⟨Nat.le_refl _⟩, ⟨zR HO473.1⟩, ⟨zB44⟩, ⟨zB46⟩, ⟨zB45⟩⟩
 case round =>
  clear H'
  obtain ⟨x3_1, x4_1, x1001_1, x1002_1, rfl, HA, HK1, HO_3, HI0, HK, HB⟩ := hrel
  cases gk with
  | zero => exact absurd HA.1 (by simp [spec_l9DrawMem.l0])
  | succ k1 =>
   have H := HA.1
   clear HA
   simp only [spec_l9DrawMem.l0] at H
   by_cases c4 : x4_1 < 24
   ·rw [if_pos c4] at H
    have c4b0 := decide_eq_true c4
    clear c4
    replace H := zO H
    obtain ⟨⟨t474, t475, t476, t477, t478, t479, t480⟩, A5, H⟩ := H
    try dsimp only at H
    replace H := zO H
    obtain ⟨⟨t481, t482⟩, A6, H⟩ := H
    try dsimp only at H
    by_cases c7 : x4_1 > 15
    ·rw [if_pos c7] at H
     have c7b0 := decide_eq_true c7
     clear c7
     generalize hy483 : ((([0, 1, 5, 65535] : List Int)) : List Int) = y483 at H
     have Ny483 := zM hy483.symm
     clear hy483
     replace H := zO H
     obtain ⟨⟨t486, t487, t488⟩, A8, H⟩ := H
     try dsimp only at H
     replace H := zIn H
     obtain ⟨LMc9, H⟩ := H
     generalize hy489 : ((x3_1 ++ [t486]) : List Int) = y489 at H
     have Ny489 := zM hy489.symm
     clear hy489
     have H' := zM H
     clear H
     go_wp2_with (first | ((with_reducible refine zG Try.func129 18 #[.pointer (some ⟨g, 0, none⟩)] ?_); (with_reducible refine (spec_l8DrawIns.calls k1 g s0_0 x1001_1 x1002_1 t474 t475 t476 t477 t478 t479 t480 w0 _ ?side1 ?side2 A5.1).mono ?_); (case side1 => exact zB44); (case side2 => exact zB45); rintro e w10 ⟨rfl, hi, hb, hk⟩; refine ⟨_, rfl, ?_⟩; replace HO_3 := zM (Kd.R_mono (Kd.R_keep (IsS102.apart (show IsS102 w0 _ g s0_0 x1001_1 x1002_1 from zB44) (zR HO_3.1) (by decide)) hk (fun _ h => h.2)) (fun _ h => h.1)); replace HK := zM (KeepBut.trans zB46 hk (.inl rfl)); replace HB := zM hb; replace HI0 := zM hi; clear hb hk hi) | ((with_reducible refine zG Try.func128 19 #[.agg #[.int .i64 t474, .int .i64 t475, .int .i64 t476, .int .i64 t477, .int .i64 t478]] ?_); (with_reducible refine (spec_Code.calls t474 t475 t476 t477 t478 t481 t482 _ A6.1).mono ?_); rintro e w11 ⟨rfl, hb⟩; refine ⟨_, rfl, ?_⟩; replace HO_3 := zM (Kd.R_below (zR HO_3.1) hb); replace HK := zM (KeepBut.trans zB46 (KeepBut.of_below hb g none) (.inl rfl)); replace HB := zM (below_step zB45 hb); replace HI0 := zM (IsS102.below zB44 hb); clear hb) | ((with_reducible refine gate_dst (N := 29) rfl ?_); refine Kd.R_lit (Kd.int .i64) _ 3 ?hg (N := 29) ?hd (xs := ([0, 1, 5, 65535] : List Int)) (inner := [.int .i64 0, .int .i64 1, .int .i64 5, .int .i64 65535]) (ok := fun _ => True) (okp := fun _ => True) ?hr ?hp (fun _ hk => hk) trivial (Below.refl _ _) (Nat.le_refl _) (by simp) ?_; (case hd => rfl); (case hg => rfl); (case hr => exact zHH); (case hp => exact (Reps.one (show Kd.M (Kd.int .i64) _ _ _ 0 [.int .i64 0] from rfl) (Reps.one (show Kd.M (Kd.int .i64) _ _ _ 1 [.int .i64 1] from rfl) (Reps.one (show Kd.M (Kd.int .i64) _ _ _ 5 [.int .i64 5] from rfl) (Reps.one (show Kd.M (Kd.int .i64) _ _ _ 65535 [.int .i64 65535] from rfl) (Reps.none _ _)))))); intro v484 w12 ho13 hb hg_ hnew_; clear hg_ hnew_; (first | rw [← Ny483.1] at ho13 | (simp only [Int.reduceToNat] at ho13; rw [← Ny483.1] at ho13)); have HO485 := zM (Kd.R_lower (Kd.R_new' ho13 (Kd.R_lt (zR HO_3.1))) (keep_size (w := w) (g := g) (row := none) zB46)); replace HO_3 := zM (Kd.R_elder' (zR HO_3.1) (Kd.R_base ho13) hb); replace HK := zM (KeepBut.trans zB46 (KeepBut.of_below hb g none) (.inl rfl)); replace HB := zM (below_step zB45 hb); replace HI0 := zM (IsS102.below zB44 hb); clear hb ho13; obtain ⟨Ao14, co14, eo14⟩ := Kd.R_slice HO485.1; subst eo14) | ((with_reducible refine zG Try.func66 30 #[.pointer (some ⟨g, 0, none⟩), .slice Ao14 y483.length co14] ?_); (with_reducible refine (spec_l1PickInt.calls g s0_0 t479 t480 _ _ y483 t486 t487 t488 w0 _ ?side1 ?side2 ?side3 ?side4 ?side5 A8.1).mono ?_); (case side1 => exact zB44); (case side2 => exact zB45); (case side3 => exact zC (Kd.R_reads' HO485.1).2.2); (case side4 => exact (Kd.R_reads' HO485.1).2.1); (case side5 => exact far_slice (IsS102.own_ne HI0.1 HO485.1 (by decide))); rintro e w15 ⟨rfl, hi, hb, hk⟩; refine ⟨_, rfl, ?_⟩; replace HO_3 := zM (Kd.R_mono (Kd.R_keep (IsS102.apart (show IsS102 w0 _ g s0_0 t479 t480 from zB44) (zR HO_3.1) (by decide)) hk (fun _ h => h.2)) (fun _ h => h.1)); replace HO485 := zM (Kd.R_mono (Kd.R_keep (IsS102.apart (show IsS102 w0 _ g s0_0 t479 t480 from zB44) (zR HO485.1) (by decide)) hk (fun _ h => h.2)) (fun _ h => h.1)); replace HK := zM (KeepBut.trans zB46 hk (.inl rfl)); replace HB := zM hb; replace HI0 := zM hi; clear hb hk hi) | ((with_reducible refine gate_builtin (b := .append) (xs := #[.tmp 31, .tmp 33]) rfl ?_); at_builtin; refine Kd.R_append (Kd.int .i64) w.heap.size rfl (.tmp 31) (.tmp 33) 24 3 (.int .i64 0) 8 rfl Try.underlying24 info3 rfl (by decide) (by omega) u3 x3_1 t486 [.int .i64 t486] (fun k_ => some k_ ≠ (.slice Ao14 y483.length co14 : Value).ownBlock) (fun _ => False) rfl rfl ?aP (fun _ hk => hk.elim) ?aF ?aO (Below.refl _ _) ?aS ?aL ?_; (case aP => exact rfl); (case aF => exact (fun k_ hk => Kd.fresh' (Kd.R_lt (zR HO485.1)) k_ hk)); (case aO => exact (by refine zrR ?_; exact Kd.R_mono HO_3.1 (fun _ hk => hk.2))); (case aS => exact (keep_size (w := w) (g := g) (row := none) zB46)); (case aL => have := LMc9.out; omega); intro v490 w16 ho hb hg hat; rw [← Ny489.1] at ho; replace HO485 := zM (Kd.R_after (ok := (fun _ => True)) (zR HO485.1) hg hat); replace HB := zM (below_weaken zB45 HL.1 hb); replace HI0 := zM (IsS102.grown (show IsS102 w0 _ g s0_0 t487 t488 from zB44) hg (IsS102.own_ne HI0.1 HO_3.1 (by decide))); replace HK := zM (KeepBut.trans zB46 (KeepBut.of_grown hg g) (Kd.R_base2 HO_3.1)); have HO491 := zM ho; clear HO_3; clear ho hb hg hat))
     go_roundg k1
     case measure => have := HK1.1; omega
     case rel => exact ⟨(y489), (wrap64 (x4_1 + 1)), (t487), (t488), zJJ, H', ⟨by have := HK1.1; omega⟩, ⟨by refine zrR ?_; exact Kd.R_mono HO491.1 (fun _ hk => trivial)⟩, ⟨zB44⟩, ⟨zB46⟩, ⟨zB45⟩⟩
    rw [if_neg c7] at H
    have c7b0 := decide_eq_false c7
    clear c7
    replace H := zO H
    obtain ⟨⟨t492, t493, t494⟩, A17, H⟩ := H
    try dsimp only at H
    by_cases c18 : t492 = true
    rotate_left
    ·replace c18 := Bool.eq_false_iff.mpr c18
     subst c18
     rw [if_neg zF] at H
     replace H := zIn H
     obtain ⟨LMc29, H⟩ := H
     generalize hy504 : ((x3_1 ++ [t481]) : List Int) = y504 at H
     have Ny504 := zM hy504.symm
     clear hy504
     have H' := zM H
     clear H
     go_wp2_with (first | ((with_reducible refine zG Try.func129 18 #[.pointer (some ⟨g, 0, none⟩)] ?_); (with_reducible refine (spec_l8DrawIns.calls k1 g s0_0 x1001_1 x1002_1 t474 t475 t476 t477 t478 t479 t480 w0 _ ?side1 ?side2 A5.1).mono ?_); (case side1 => exact zB44); (case side2 => exact zB45); rintro e w30 ⟨rfl, hi, hb, hk⟩; refine ⟨_, rfl, ?_⟩; replace HO_3 := zM (Kd.R_mono (Kd.R_keep (IsS102.apart (show IsS102 w0 _ g s0_0 x1001_1 x1002_1 from zB44) (zR HO_3.1) (by decide)) hk (fun _ h => h.2)) (fun _ h => h.1)); replace HK := zM (KeepBut.trans zB46 hk (.inl rfl)); replace HB := zM hb; replace HI0 := zM hi; clear hb hk hi) | ((with_reducible refine zG Try.func128 19 #[.agg #[.int .i64 t474, .int .i64 t475, .int .i64 t476, .int .i64 t477, .int .i64 t478]] ?_); (with_reducible refine (spec_Code.calls t474 t475 t476 t477 t478 t481 t482 _ A6.1).mono ?_); rintro e w31 ⟨rfl, hb⟩; refine ⟨_, rfl, ?_⟩; replace HO_3 := zM (Kd.R_below (zR HO_3.1) hb); replace HK := zM (KeepBut.trans zB46 (KeepBut.of_below hb g none) (.inl rfl)); replace HB := zM (below_step zB45 hb); replace HI0 := zM (IsS102.below zB44 hb); clear hb) | (go_at_call 68; (with_reducible refine (spec_l1Once.calls g s0_0 t479 t480 9 false t493 t494 w0 _ ?side1 ?side2 A17.1).mono ?_); (case side1 => exact zB44); (case side2 => exact zB45); rintro e w32 ⟨rfl, hi, hb, hk⟩; replace HO_3 := zM (Kd.R_mono (Kd.R_keep (IsS102.apart (show IsS102 w0 _ g s0_0 t479 t480 from zB44) (zR HO_3.1) (by decide)) hk (fun _ h => h.2)) (fun _ h => h.1)); replace HK := zM (KeepBut.trans zB46 hk (.inl rfl)); replace HB := zM hb; replace HI0 := zM hi; clear hb hk hi) | ((with_reducible refine gate_builtin (b := .append) (xs := #[.tmp 31, .tmp 33]) rfl ?_); at_builtin; refine Kd.R_append (Kd.int .i64) w.heap.size rfl (.tmp 31) (.tmp 33) 24 3 (.int .i64 0) 8 rfl Try.underlying24 info3 rfl (by decide) (by omega) u3 x3_1 t481 [.int .i64 t481] (fun _ => True) (fun _ => False) rfl rfl ?aP (fun _ hk => hk.elim) ?aF ?aO (Below.refl _ _) ?aS ?aL ?_; (case aP => exact rfl); (case aF => exact (fun _ _ => trivial)); (case aO => exact (zR HO_3.1)); (case aS => exact (keep_size (w := w) (g := g) (row := none) zB46)); (case aL => have := LMc29.out; omega); intro v505 w33 ho hb hg hat; rw [← Ny504.1] at ho; replace HB := zM (below_weaken zB45 HL.1 hb); replace HI0 := zM (IsS102.grown (show IsS102 w0 _ g s0_0 t493 t494 from zB44) hg (IsS102.own_ne HI0.1 HO_3.1 (by decide))); replace HK := zM (KeepBut.trans zB46 (KeepBut.of_grown hg g) (Kd.R_base2 HO_3.1)); have HO506 := zM ho; clear HO_3; clear ho hb hg hat))
     go_roundg k1
     case measure => have := HK1.1; omega
     case rel => exact ⟨(y504), (wrap64 (x4_1 + 1)), (t493), (t494), zJJ, H', ⟨by have := HK1.1; omega⟩, ⟨zR HO506.1⟩, ⟨zB44⟩, ⟨zB46⟩, ⟨zB45⟩⟩
    subst c18
    rw [if_pos rfl] at H
    generalize hy495 : ((([0, 1, 5, 65535] : List Int)) : List Int) = y495 at H
    have Ny495 := zM hy495.symm
    clear hy495
    replace H := zO H
    obtain ⟨⟨t498, t499, t500⟩, A19, H⟩ := H
    try dsimp only at H
    replace H := zIn H
    obtain ⟨LMc20, H⟩ := H
    generalize hy501 : ((x3_1 ++ [t498]) : List Int) = y501 at H
    have Ny501 := zM hy501.symm
    clear hy501
    have H' := zM H
    clear H
    go_wp2_with (first | ((with_reducible refine zG Try.func129 18 #[.pointer (some ⟨g, 0, none⟩)] ?_); (with_reducible refine (spec_l8DrawIns.calls k1 g s0_0 x1001_1 x1002_1 t474 t475 t476 t477 t478 t479 t480 w0 _ ?side1 ?side2 A5.1).mono ?_); (case side1 => exact zB44); (case side2 => exact zB45); rintro e w21 ⟨rfl, hi, hb, hk⟩; refine ⟨_, rfl, ?_⟩; replace HO_3 := zM (Kd.R_mono (Kd.R_keep (IsS102.apart (show IsS102 w0 _ g s0_0 x1001_1 x1002_1 from zB44) (zR HO_3.1) (by decide)) hk (fun _ h => h.2)) (fun _ h => h.1)); replace HK := zM (KeepBut.trans zB46 hk (.inl rfl)); replace HB := zM hb; replace HI0 := zM hi; clear hb hk hi) | ((with_reducible refine zG Try.func128 19 #[.agg #[.int .i64 t474, .int .i64 t475, .int .i64 t476, .int .i64 t477, .int .i64 t478]] ?_); (with_reducible refine (spec_Code.calls t474 t475 t476 t477 t478 t481 t482 _ A6.1).mono ?_); rintro e w22 ⟨rfl, hb⟩; refine ⟨_, rfl, ?_⟩; replace HO_3 := zM (Kd.R_below (zR HO_3.1) hb); replace HK := zM (KeepBut.trans zB46 (KeepBut.of_below hb g none) (.inl rfl)); replace HB := zM (below_step zB45 hb); replace HI0 := zM (IsS102.below zB44 hb); clear hb) | (go_at_call 68; (with_reducible refine (spec_l1Once.calls g s0_0 t479 t480 9 true t493 t494 w0 _ ?side1 ?side2 A17.1).mono ?_); (case side1 => exact zB44); (case side2 => exact zB45); rintro e w23 ⟨rfl, hi, hb, hk⟩; replace HO_3 := zM (Kd.R_mono (Kd.R_keep (IsS102.apart (show IsS102 w0 _ g s0_0 t479 t480 from zB44) (zR HO_3.1) (by decide)) hk (fun _ h => h.2)) (fun _ h => h.1)); replace HK := zM (KeepBut.trans zB46 hk (.inl rfl)); replace HB := zM hb; replace HI0 := zM hi; clear hb hk hi) | ((with_reducible refine gate_dst (N := 29) rfl ?_); refine Kd.R_lit (Kd.int .i64) _ 3 ?hg (N := 29) ?hd (xs := ([0, 1, 5, 65535] : List Int)) (inner := [.int .i64 0, .int .i64 1, .int .i64 5, .int .i64 65535]) (ok := fun _ => True) (okp := fun _ => True) ?hr ?hp (fun _ hk => hk) trivial (Below.refl _ _) (Nat.le_refl _) (by simp) ?_; (case hd => rfl); (case hg => rfl); (case hr => exact zHH); (case hp => exact (Reps.one (show Kd.M (Kd.int .i64) _ _ _ 0 [.int .i64 0] from rfl) (Reps.one (show Kd.M (Kd.int .i64) _ _ _ 1 [.int .i64 1] from rfl) (Reps.one (show Kd.M (Kd.int .i64) _ _ _ 5 [.int .i64 5] from rfl) (Reps.one (show Kd.M (Kd.int .i64) _ _ _ 65535 [.int .i64 65535] from rfl) (Reps.none _ _)))))); intro v496 w24 ho25 hb hg_ hnew_; clear hg_ hnew_; (first | rw [← Ny495.1] at ho25 | (simp only [Int.reduceToNat] at ho25; rw [← Ny495.1] at ho25)); have HO497 := zM (Kd.R_lower (Kd.R_new' ho25 (Kd.R_lt (zR HO_3.1))) (keep_size (w := w) (g := g) (row := none) zB46)); replace HO_3 := zM (Kd.R_elder' (zR HO_3.1) (Kd.R_base ho25) hb); replace HK := zM (KeepBut.trans zB46 (KeepBut.of_below hb g none) (.inl rfl)); replace HB := zM (below_step zB45 hb); replace HI0 := zM (IsS102.below zB44 hb); clear hb ho25; obtain ⟨Ao26, co26, eo26⟩ := Kd.R_slice HO497.1; subst eo26) | ((with_reducible refine zG Try.func66 30 #[.pointer (some ⟨g, 0, none⟩), .slice Ao26 y495.length co26] ?_); (with_reducible refine (spec_l1PickInt.calls g s0_0 t493 t494 _ _ y495 t498 t499 t500 w0 _ ?side1 ?side2 ?side3 ?side4 ?side5 A19.1).mono ?_); (case side1 => exact zB44); (case side2 => exact zB45); (case side3 => exact zC (Kd.R_reads' HO497.1).2.2); (case side4 => exact (Kd.R_reads' HO497.1).2.1); (case side5 => exact far_slice (IsS102.own_ne HI0.1 HO497.1 (by decide))); rintro e w27 ⟨rfl, hi, hb, hk⟩; refine ⟨_, rfl, ?_⟩; replace HO_3 := zM (Kd.R_mono (Kd.R_keep (IsS102.apart (show IsS102 w0 _ g s0_0 t493 t494 from zB44) (zR HO_3.1) (by decide)) hk (fun _ h => h.2)) (fun _ h => h.1)); replace HO497 := zM (Kd.R_mono (Kd.R_keep (IsS102.apart (show IsS102 w0 _ g s0_0 t493 t494 from zB44) (zR HO497.1) (by decide)) hk (fun _ h => h.2)) (fun _ h => h.1)); replace HK := zM (KeepBut.trans zB46 hk (.inl rfl)); replace HB := zM hb; replace HI0 := zM hi; clear hb hk hi) | ((with_reducible refine gate_builtin (b := .append) (xs := #[.tmp 31, .tmp 33]) rfl ?_); at_builtin; refine Kd.R_append (Kd.int .i64) w.heap.size rfl (.tmp 31) (.tmp 33) 24 3 (.int .i64 0) 8 rfl Try.underlying24 info3 rfl (by decide) (by omega) u3 x3_1 t498 [.int .i64 t498] (fun k_ => some k_ ≠ (.slice Ao26 y495.length co26 : Value).ownBlock) (fun _ => False) rfl rfl ?aP (fun _ hk => hk.elim) ?aF ?aO (Below.refl _ _) ?aS ?aL ?_; (case aP => exact rfl); (case aF => exact (fun k_ hk => Kd.fresh' (Kd.R_lt (zR HO497.1)) k_ hk)); (case aO => exact (by refine zrR ?_; exact Kd.R_mono HO_3.1 (fun _ hk => hk.2))); (case aS => exact (keep_size (w := w) (g := g) (row := none) zB46)); (case aL => have := LMc20.out; omega); intro v502 w28 ho hb hg hat; rw [← Ny501.1] at ho; replace HO497 := zM (Kd.R_after (ok := (fun _ => True)) (zR HO497.1) hg hat); replace HB := zM (below_weaken zB45 HL.1 hb); replace HI0 := zM (IsS102.grown (show IsS102 w0 _ g s0_0 t499 t500 from zB44) hg (IsS102.own_ne HI0.1 HO_3.1 (by decide))); replace HK := zM (KeepBut.trans zB46 (KeepBut.of_grown hg g) (Kd.R_base2 HO_3.1)); have HO503 := zM ho; clear HO_3; clear ho hb hg hat))
    go_roundg k1
    case measure => have := HK1.1; omega
    case rel => exact ⟨(y501), (wrap64 (x4_1 + 1)), (t499), (t500), zJJ, H', ⟨by have := HK1.1; omega⟩, ⟨by refine zrR ?_; exact Kd.R_mono HO503.1 (fun _ hk => trivial)⟩, ⟨zB44⟩, ⟨zB46⟩, ⟨zB45⟩⟩
   rw [if_neg c4] at H
   have c4b0 := decide_eq_false c4
   clear c4
   replace H := zO H
   obtain ⟨⟨t507, t508, t509⟩, A34, H⟩ := H
   try dsimp only at H
   by_cases c35 : t507 = 0
   ·rw [if_pos c35] at H
    have c35b0 : (t507 == 0) = true := beq_iff_eq.mpr c35
    have c35b1 : (t507 != 0) = false := bne_eq_false_iff_eq.mpr c35
    clear c35
    generalize hy510 : ((([(⟨1, 1, 0, 0, 1⟩ : S59), (⟨6, 2, 0, 1, 20⟩ : S59), (⟨10, 3, 2, 1, 0⟩ : S59), (⟨8, 0, 0, 0, 1⟩ : S59)] : List (S59))) : List (S59)) = y510 at H
    have Ny510 := zM hy510.symm
    clear hy510
    have H' := zM H
    clear H
    go_wp2_with (first | ((with_reducible refine zG Try.func67 36 #[.pointer (some ⟨g, 0, none⟩), .int .i64 4] ?_); (with_reducible refine (spec_l1Below.calls g s0_0 x1001_1 x1002_1 4 t507 t508 t509 w0 _ ?side1 ?side2 A34.1).mono ?_); (case side1 => exact zB44); (case side2 => exact zB45); rintro e w36 ⟨rfl, hi, hb, hk⟩; refine ⟨_, rfl, ?_⟩; replace HO_3 := zM (Kd.R_mono (Kd.R_keep (IsS102.apart (show IsS102 w0 _ g s0_0 x1001_1 x1002_1 from zB44) (zR HO_3.1) (by decide)) hk (fun _ h => h.2)) (fun _ h => h.1)); replace HK := zM (KeepBut.trans zB46 hk (.inl rfl)); replace HB := zM hb; replace HI0 := zM hi; clear hb hk hi) | ((with_reducible refine gate_dst (N := 43) rfl ?_); refine Kd.R_lit k59 _ 59 ?hg (N := 43) ?hd (xs := ([(⟨1, 1, 0, 0, 1⟩ : S59), (⟨6, 2, 0, 1, 20⟩ : S59), (⟨10, 3, 2, 1, 0⟩ : S59), (⟨8, 0, 0, 0, 1⟩ : S59)] : List (S59))) (inner := [.int .i64 1, .int .i64 1, .int .i64 0, .int .i64 0, .int .i64 1, .int .i64 6, .int .i64 2, .int .i64 0, .int .i64 1, .int .i64 20, .int .i64 10, .int .i64 3, .int .i64 2, .int .i64 1, .int .i64 0, .int .i64 8, .int .i64 0, .int .i64 0, .int .i64 0, .int .i64 1]) (ok := fun _ => True) (okp := fun _ => True) ?hr ?hp (fun _ hk => hk) trivial (Below.refl _ _) (Nat.le_refl _) (by simp) ?_; (case hd => rfl); (case hg => rfl); (case hr => exact zHH); (case hp => exact (Reps.c5 (show Kd.M k59 _ _ _ (⟨1, 1, 0, 0, 1⟩ : S59) [.int .i64 1, .int .i64 1, .int .i64 0, .int .i64 0, .int .i64 1] from (k59_mkM _ _ _ (⟨1, 1, 0, 0, 1⟩ : S59) )) (Reps.c5 (show Kd.M k59 _ _ _ (⟨6, 2, 0, 1, 20⟩ : S59) [.int .i64 6, .int .i64 2, .int .i64 0, .int .i64 1, .int .i64 20] from (k59_mkM _ _ _ (⟨6, 2, 0, 1, 20⟩ : S59) )) (Reps.c5 (show Kd.M k59 _ _ _ (⟨10, 3, 2, 1, 0⟩ : S59) [.int .i64 10, .int .i64 3, .int .i64 2, .int .i64 1, .int .i64 0] from (k59_mkM _ _ _ (⟨10, 3, 2, 1, 0⟩ : S59) )) (Reps.c5 (show Kd.M k59 _ _ _ (⟨8, 0, 0, 0, 1⟩ : S59) [.int .i64 8, .int .i64 0, .int .i64 0, .int .i64 0, .int .i64 1] from (k59_mkM _ _ _ (⟨8, 0, 0, 0, 1⟩ : S59) )) (Reps.none _ _)))))); intro v511 w37 ho38 hb hg_ hnew_; clear hg_ hnew_; (first | rw [← Ny510.1] at ho38 | (simp only [Int.reduceToNat] at ho38; rw [← Ny510.1] at ho38)); replace HO_3 := zM (Kd.R_below (zR HO_3.1) hb); have HO512 := zM (Kd.R_lower ho38 (keep_size (w := w) (g := g) (row := none) zB46)); replace HK := zM (KeepBut.trans zB46 (KeepBut.of_below hb g none) (.inl rfl)); replace HB := zM (below_step zB45 hb); replace HI0 := zM (IsS102.below zB44 hb); clear hb ho38))
    go_loopg [8] k1 (fun kq v8 w' => ∃ (x3_2 : List Int) (x8_2 : Int), v8 = .int .i64 x8_2 ∧ Aside0 (spec_l9DrawMem.l1 kq x3_2 y510 x8_2 s0_0 t508 t509 = some (r1, r2, r3)) ∧ Aside0 (kq ≤ k1) ∧ Aside0 (Kd.R (Kd.int .i64) 3 w' w.heap.size (fun _ => True) u3 x3_2) ∧ Aside0 (Kd.R k59 59 w' w.heap.size (fun _ => True) v511 y510) ∧ Aside0 (IsS102 w0 w' g s0_0 t508 t509) ∧ Aside0 (KeepBut w w' g none) ∧ Aside0 (Below w0.heap.size w0 w'))
    case atStart => exact ⟨(x3_1), (0), zJJ, H', ⟨Nat.le_refl _⟩, ⟨zR HO_3.1⟩, ⟨zR HO512.1⟩, ⟨zB44⟩, ⟨zB46⟩, ⟨zB45⟩⟩
    case round =>
     clear H'
     obtain ⟨x3_2, x8_2, rfl, HA, HK2, HO_3, HO_7, HI0, HK, HB⟩ := hrel
     cases gk with
     | zero => exact absurd HA.1 (by simp [spec_l9DrawMem.l1])
     | succ k2 =>
      have H := HA.1
      clear HA
      simp only [spec_l9DrawMem.l1] at H
      by_cases c39 : x8_2 < (y510.length : Int)
      rotate_left
      ·rw [if_neg c39] at H
       have c39b0 := decide_eq_false c39
       clear c39
       simp only [Option.some.injEq, Prod.mk.injEq] at H
       obtain ⟨rfl, rfl, rfl⟩ := H
       obtain ⟨Ao48, co48, eo48⟩ := Kd.R_slice HO_7.1
       subst eo48
       go_wp2
       go_ret
       exact ⟨_, zE, zR HO_3.1, zB44, zB45, zB46⟩
      rw [if_pos c39] at H
      have c39b0 := decide_eq_true c39
      clear c39
      replace H := zIt H
      obtain ⟨c40b0, H⟩ := H
      replace H := zO H
      obtain ⟨⟨t514, t515⟩, A41, H⟩ := H
      try dsimp only at H
      replace H := zIt H
      obtain ⟨c42b0, H⟩ := H
      generalize hy516 : ((x3_2.set (x8_2 : Int).toNat t514) : List Int) = y516 at H
      have Ny516 := zM hy516.symm
      clear hy516
      have H' := zM H
      clear H
      obtain ⟨Ao44, co44, eo44⟩ := Kd.R_slice HO_7.1
      subst eo44
      obtain ⟨p513, q513, ad513, e513, hx513_0, hx513_1, hx513_2, hx513_3, hx513_4⟩ := zRd (at_T59 (Kd.R_reads' HO_7.1).2.2 x8_2)
      cases e513
      go_wp2_with (first | ((with_reducible refine zG Try.func128 57 #[.agg #[.int .i64 ((rd_T59 y510 x8_2).f0), .int .i64 ((rd_T59 y510 x8_2).f1), .int .i64 ((rd_T59 y510 x8_2).f2), .int .i64 ((rd_T59 y510 x8_2).f3), .int .i64 ((rd_T59 y510 x8_2).f4)]] ?_); (with_reducible refine (spec_Code.calls ((rd_T59 y510 x8_2).f0) ((rd_T59 y510 x8_2).f1) ((rd_T59 y510 x8_2).f2) ((rd_T59 y510 x8_2).f3) ((rd_T59 y510 x8_2).f4) t514 t515 _ A41.1).mono ?_); rintro e w45 ⟨rfl, hb⟩; refine ⟨_, rfl, ?_⟩; replace HO_3 := zM (Kd.R_below (zR HO_3.1) hb); replace HO_7 := zM (Kd.R_below (zR HO_7.1) hb); replace HK := zM (KeepBut.trans zB46 (KeepBut.of_below hb g none) (.inl rfl)); replace HB := zM (below_step zB45 hb); replace HI0 := zM (IsS102.below zB44 hb); clear hb; have p43 : 0 ≤ (x8_2 : Int) := zA; have q43 : (x8_2 : Int) < ((x3_2.length : Int) : Int) := zA; obtain ⟨go43, co43, eo43, gb43, gl43, cl43, HG43⟩ := Kd.R_form HO_3.1 (by omega); (first | cases eo43 | (injection eo43 with ea_ en_ ec_; (first | subst ea_ | (injection ea_ with ea_; subst ea_)); subst ec_; clear en_)); have GB43 := zM gb43; have GG43 := zM HG43; clear gb43 gl43 HG43; obtain ⟨hx43_0, hf43_0⟩ := Kd.R_celln 0 HO_3.1 (x8_2 : Int) p43 q43; replace p43 := eq_true p43; replace q43 := eq_true q43; obtain ⟨hy46_, hz46_⟩ := Kd.R_celln 0 HO_3.1 (x8_2 : Int) zA zA; have HP46 := Kd.R_putg HO_3.1 (x8_2 : Int) t514) | ((with_reducible refine gate_store (t := 3) (p := 60) rfl ?_); refine store_event (t := 3) (p := 60) (v := ?vo_w47) (w1 := (w45.setCell ⟨go43, (x8_2 : Int).toNat, none⟩ (.int .i64 t514))) ?hg ?ho ?hn ?hr ?_; (case ho => rfl); (case hg => rfl); (case hn => rfl); (case hr => exact zHH); intro w47 hw; have hg : w45.grownBy w47 (some go43) := (by rw [hw]; exact HP46.2); have hp_ : Kd.R (Kd.int .i64) 3 w47 w.heap.size (fun _ => True) (.slice (some ⟨go43, 0, none⟩) x3_2.length co43) y516 := (by rw [hw, Ny516.1]; exact HP46.1); clear HP46; replace HO_7 := zM (Kd.R_over' (v := (.slice (some ⟨go43, 0, none⟩) x3_2.length co43)) (zR HO_7.1) (Kd.R_typed HO_3.1) (by decide) hg); replace HI0 := zM (IsS102.grown zB44 hg (IsS102.own_ne HI0.1 HO_3.1 (by decide))); replace HB := zM ((by rw [hw]; exact below_set (HB.1) (Nat.le_trans HL.1 GB43.1) : Below w0.heap.size w0 w47)); replace HK := zM (KeepBut.trans zB46 (KeepBut.of_grown hg g) (Kd.R_base2 HO_3.1)); replace HO_3 := zM hp_; clear hg hw hp_))
      go_roundg k2
      case measure => have := HK1.1; have := HK2.1; omega
      case rel => exact ⟨(y516), (wrap64 (x8_2 + 1)), zJJ, H', ⟨by have := HK1.1; have := HK2.1; omega⟩, ⟨zR HO_3.1⟩, ⟨zR HO_7.1⟩, ⟨zB44⟩, ⟨zB46⟩, ⟨zB45⟩⟩
   rw [if_neg c35] at H
   have c35b0 : (t507 == 0) = false := beq_eq_false_iff_ne.mpr c35
   have c35b1 : (t507 != 0) = true := bne_iff_ne.mpr c35
   by_cases c49 : t507 = 1
   rotate_left
   ·rw [if_neg c49] at H
    have c49b0 : (t507 == 1) = false := beq_eq_false_iff_ne.mpr c49
    have c49b1 : (t507 != 1) = true := bne_iff_ne.mpr c49
    simp only [Option.some.injEq, Prod.mk.injEq] at H
    obtain ⟨rfl, rfl, rfl⟩ := H
    go_wp2_with (first | ((with_reducible refine zG Try.func67 36 #[.pointer (some ⟨g, 0, none⟩), .int .i64 4] ?_); (with_reducible refine (spec_l1Below.calls g s0_0 x1001_1 x1002_1 4 t507 t508 t509 w0 _ ?side1 ?side2 A34.1).mono ?_); (case side1 => exact zB44); (case side2 => exact zB45); rintro e w63 ⟨rfl, hi, hb, hk⟩; refine ⟨_, rfl, ?_⟩; replace HO_3 := zM (Kd.R_mono (Kd.R_keep (IsS102.apart (show IsS102 w0 _ g s0_0 x1001_1 x1002_1 from zB44) (zR HO_3.1) (by decide)) hk (fun _ h => h.2)) (fun _ h => h.1)); replace HK := zM (KeepBut.trans zB46 hk (.inl rfl)); replace HB := zM hb; replace HI0 := zM hi; clear hb hk hi))
    go_ret
    exact ⟨_, zE, zR HO_3.1, zB44, zB45, zB46⟩
   rw [if_pos c49] at H
   have c49b0 : (t507 == 1) = true := beq_iff_eq.mpr c49
   have c49b1 : (t507 != 1) = false := bne_eq_false_iff_eq.mpr c49
   clear c49
   generalize hy517 : ((([(⟨4, 1, 0, 0, 8⟩ : S59), (⟨3, 1, 1, 0, 1⟩ : S59), (⟨5, 0, 0, 1, 8⟩ : S59), (⟨8, 0, 0, 0, 8⟩ : S59)] : List (S59))) : List (S59)) = y517 at H
   have Ny517 := zM hy517.symm
   clear hy517
   have H' := zM H
   clear H
   go_wp2_with (first | ((with_reducible refine zG Try.func67 36 #[.pointer (some ⟨g, 0, none⟩), .int .i64 4] ?_); (with_reducible refine (spec_l1Below.calls g s0_0 x1001_1 x1002_1 4 t507 t508 t509 w0 _ ?side1 ?side2 A34.1).mono ?_); (case side1 => exact zB44); (case side2 => exact zB45); rintro e w50 ⟨rfl, hi, hb, hk⟩; refine ⟨_, rfl, ?_⟩; replace HO_3 := zM (Kd.R_mono (Kd.R_keep (IsS102.apart (show IsS102 w0 _ g s0_0 x1001_1 x1002_1 from zB44) (zR HO_3.1) (by decide)) hk (fun _ h => h.2)) (fun _ h => h.1)); replace HK := zM (KeepBut.trans zB46 hk (.inl rfl)); replace HB := zM hb; replace HI0 := zM hi; clear hb hk hi) | ((with_reducible refine gate_dst (N := 67) rfl ?_); refine Kd.R_lit k59 _ 59 ?hg (N := 67) ?hd (xs := ([(⟨4, 1, 0, 0, 8⟩ : S59), (⟨3, 1, 1, 0, 1⟩ : S59), (⟨5, 0, 0, 1, 8⟩ : S59), (⟨8, 0, 0, 0, 8⟩ : S59)] : List (S59))) (inner := [.int .i64 4, .int .i64 1, .int .i64 0, .int .i64 0, .int .i64 8, .int .i64 3, .int .i64 1, .int .i64 1, .int .i64 0, .int .i64 1, .int .i64 5, .int .i64 0, .int .i64 0, .int .i64 1, .int .i64 8, .int .i64 8, .int .i64 0, .int .i64 0, .int .i64 0, .int .i64 8]) (ok := fun _ => True) (okp := fun _ => True) ?hr ?hp (fun _ hk => hk) trivial (Below.refl _ _) (Nat.le_refl _) (by simp) ?_; (case hd => rfl); (case hg => rfl); (case hr => exact zHH); (case hp => exact (Reps.c5 (show Kd.M k59 _ _ _ (⟨4, 1, 0, 0, 8⟩ : S59) [.int .i64 4, .int .i64 1, .int .i64 0, .int .i64 0, .int .i64 8] from (k59_mkM _ _ _ (⟨4, 1, 0, 0, 8⟩ : S59) )) (Reps.c5 (show Kd.M k59 _ _ _ (⟨3, 1, 1, 0, 1⟩ : S59) [.int .i64 3, .int .i64 1, .int .i64 1, .int .i64 0, .int .i64 1] from (k59_mkM _ _ _ (⟨3, 1, 1, 0, 1⟩ : S59) )) (Reps.c5 (show Kd.M k59 _ _ _ (⟨5, 0, 0, 1, 8⟩ : S59) [.int .i64 5, .int .i64 0, .int .i64 0, .int .i64 1, .int .i64 8] from (k59_mkM _ _ _ (⟨5, 0, 0, 1, 8⟩ : S59) )) (Reps.c5 (show Kd.M k59 _ _ _ (⟨8, 0, 0, 0, 8⟩ : S59) [.int .i64 8, .int .i64 0, .int .i64 0, .int .i64 0, .int .i64 8] from (k59_mkM _ _ _ (⟨8, 0, 0, 0, 8⟩ : S59) )) (Reps.none _ _)))))); intro v518 w51 ho52 hb hg_ hnew_; clear hg_ hnew_; (first | rw [← Ny517.1] at ho52 | (simp only [Int.reduceToNat] at ho52; rw [← Ny517.1] at ho52)); replace HO_3 := zM (Kd.R_below (zR HO_3.1) hb); have HO519 := zM (Kd.R_lower ho52 (keep_size (w := w) (g := g) (row := none) zB46)); replace HK := zM (KeepBut.trans zB46 (KeepBut.of_below hb g none) (.inl rfl)); replace HB := zM (below_step zB45 hb); replace HI0 := zM (IsS102.below zB44 hb); clear hb ho52))
   go_loopg [10] k1 (fun kq v10 w' => ∃ (x3_2 : List Int) (x10_2 : Int), v10 = .int .i64 x10_2 ∧ Aside0 (spec_l9DrawMem.l2 kq x3_2 y517 x10_2 s0_0 t508 t509 = some (r1, r2, r3)) ∧ Aside0 (kq ≤ k1) ∧ Aside0 (Kd.R (Kd.int .i64) 3 w' w.heap.size (fun _ => True) u3 x3_2) ∧ Aside0 (Kd.R k59 59 w' w.heap.size (fun _ => True) v518 y517) ∧ Aside0 (IsS102 w0 w' g s0_0 t508 t509) ∧ Aside0 (KeepBut w w' g none) ∧ Aside0 (Below w0.heap.size w0 w'))
   case atStart => exact ⟨(x3_1), (0), zJJ, H', ⟨Nat.le_refl _⟩, ⟨zR HO_3.1⟩, ⟨zR HO519.1⟩, ⟨zB44⟩, ⟨zB46⟩, ⟨zB45⟩⟩
   case round =>
    clear H'
    try clear hf4
    try clear hf43
    obtain ⟨x3_2, x10_2, rfl, HA, HK2, HO_3, HO_9, HI0, HK, HB⟩ := hrel
    cases gk with
    | zero => exact absurd HA.1 (by simp [spec_l9DrawMem.l2])
    | succ k2 =>
     have H := HA.1
     clear HA
     simp only [spec_l9DrawMem.l2] at H
     by_cases c53 : x10_2 < (y517.length : Int)
     rotate_left
     ·rw [if_neg c53] at H
      have c53b0 := decide_eq_false c53
      clear c53
      simp only [Option.some.injEq, Prod.mk.injEq] at H
      obtain ⟨rfl, rfl, rfl⟩ := H
      obtain ⟨Ao62, co62, eo62⟩ := Kd.R_slice HO_9.1
      subst eo62
      go_wp2
      go_ret
      exact ⟨_, zE, zR HO_3.1, zB44, zB45, zB46⟩
     rw [if_pos c53] at H
     have c53b0 := decide_eq_true c53
     clear c53
     replace H := zIt H
     obtain ⟨c54b0, H⟩ := H
     replace H := zO H
     obtain ⟨⟨t521, t522⟩, A55, H⟩ := H
     try dsimp only at H
     replace H := zIt H
     obtain ⟨c56b0, H⟩ := H
     generalize hy523 : ((x3_2.set (x10_2 : Int).toNat t521) : List Int) = y523 at H
     have Ny523 := zM hy523.symm
     clear hy523
     have H' := zM H
     clear H
     obtain ⟨Ao58, co58, eo58⟩ := Kd.R_slice HO_9.1
     subst eo58
     obtain ⟨p520, q520, ad520, e520, hx520_0, hx520_1, hx520_2, hx520_3, hx520_4⟩ := zRd (at_T59 (Kd.R_reads' HO_9.1).2.2 x10_2)
     cases e520
     go_wp2_with (first | ((with_reducible refine zG Try.func128 81 #[.agg #[.int .i64 ((rd_T59 y517 x10_2).f0), .int .i64 ((rd_T59 y517 x10_2).f1), .int .i64 ((rd_T59 y517 x10_2).f2), .int .i64 ((rd_T59 y517 x10_2).f3), .int .i64 ((rd_T59 y517 x10_2).f4)]] ?_); (with_reducible refine (spec_Code.calls ((rd_T59 y517 x10_2).f0) ((rd_T59 y517 x10_2).f1) ((rd_T59 y517 x10_2).f2) ((rd_T59 y517 x10_2).f3) ((rd_T59 y517 x10_2).f4) t521 t522 _ A55.1).mono ?_); rintro e w59 ⟨rfl, hb⟩; refine ⟨_, rfl, ?_⟩; replace HO_3 := zM (Kd.R_below (zR HO_3.1) hb); replace HO_9 := zM (Kd.R_below (zR HO_9.1) hb); replace HK := zM (KeepBut.trans zB46 (KeepBut.of_below hb g none) (.inl rfl)); replace HB := zM (below_step zB45 hb); replace HI0 := zM (IsS102.below zB44 hb); clear hb; have p57 : 0 ≤ (x10_2 : Int) := zA; have q57 : (x10_2 : Int) < ((x3_2.length : Int) : Int) := zA; obtain ⟨go57, co57, eo57, gb57, gl57, cl57, HG57⟩ := Kd.R_form HO_3.1 (by omega); (first | cases eo57 | (injection eo57 with ea_ en_ ec_; (first | subst ea_ | (injection ea_ with ea_; subst ea_)); subst ec_; clear en_)); have GB57 := zM gb57; have GG57 := zM HG57; clear gb57 gl57 HG57; obtain ⟨hx57_0, hf57_0⟩ := Kd.R_celln 0 HO_3.1 (x10_2 : Int) p57 q57; replace p57 := eq_true p57; replace q57 := eq_true q57; obtain ⟨hy60_, hz60_⟩ := Kd.R_celln 0 HO_3.1 (x10_2 : Int) zA zA; have HP60 := Kd.R_putg HO_3.1 (x10_2 : Int) t521) | ((with_reducible refine gate_store (t := 3) (p := 84) rfl ?_); refine store_event (t := 3) (p := 84) (v := ?vo_w61) (w1 := (w59.setCell ⟨go57, (x10_2 : Int).toNat, none⟩ (.int .i64 t521))) ?hg ?ho ?hn ?hr ?_; (case ho => rfl); (case hg => rfl); (case hn => rfl); (case hr => exact zHH); intro w61 hw; have hg : w59.grownBy w61 (some go57) := (by rw [hw]; exact HP60.2); have hp_ : Kd.R (Kd.int .i64) 3 w61 w.heap.size (fun _ => True) (.slice (some ⟨go57, 0, none⟩) x3_2.length co57) y523 := (by rw [hw, Ny523.1]; exact HP60.1); clear HP60; replace HO_9 := zM (Kd.R_over' (v := (.slice (some ⟨go57, 0, none⟩) x3_2.length co57)) (zR HO_9.1) (Kd.R_typed HO_3.1) (by decide) hg); replace HI0 := zM (IsS102.grown zB44 hg (IsS102.own_ne HI0.1 HO_3.1 (by decide))); replace HB := zM ((by rw [hw]; exact below_set (HB.1) (Nat.le_trans HL.1 GB57.1) : Below w0.heap.size w0 w61)); replace HK := zM (KeepBut.trans zB46 (KeepBut.of_grown hg g) (Kd.R_base2 HO_3.1)); replace HO_3 := zM hp_; clear hg hw hp_))
     go_roundg k2
     case measure => have := HK1.1; have := HK2.1; omega
     case rel => exact ⟨(y523), (wrap64 (x10_2 + 1)), zJJ, H', ⟨by have := HK1.1; have := HK2.1; omega⟩, ⟨zR HO_3.1⟩, ⟨zR HO_9.1⟩, ⟨zB44⟩, ⟨zB46⟩, ⟨zB45⟩⟩

end Go.Proofs.Ytnjdepmlpdjghaa.PFnAllEnds
