-- made by wip/tools/myprint.py out of the seat's translation
import Derived.Test.YtgbjengnkbomoaaPFnRacesx0
import Derived.Test.YtgbjengnkbomoaaPFnRacesx4
import Derived.Test.YtgbjengnkbomoaaPFnRacesx8
namespace Go.Proofs.Ytgbjengnkbomoaa.PFnRaces
open Go.RowKit Go.Proofs.YtgbjengnkbomoaaW.PrintWords Go.Proofs.YtgbjengnkbomoaaW.PrintLast Go.Proofs.YtgbjengnkbomoaaW.PrintMore
attribute [local go_sem] max2_int min2_int max_two min_two max_three min_three max_four min_four   -- for this text's walks alone
set_option linter.unusedVariables false
set_option linter.unusedSimpArgs false
set_option maxHeartbeats 8000000
set_option maxRecDepth 100000

/-! ### spec_l8DrawIns: function 92 -/
mutual
def spec_l8DrawIns.j0 : Nat → Int → List Int → Int → Int → Int → Int → Int → Int → Int → Option (Int × Int × Int × Int × Int × Int × Int)
 | 0, _, _, _, _, _, _, _, _, _ => none
 | k + 1, x4, x1000, x1001, x1002, x376000, x376001, x376002, x376003, x376004 => if (Go.bits .and .i64 x4 2) = 0 then (spec_l8DrawIns.j1 k x4 x1000 x1001 x1002 x376000 x376001 x376002 x376003 x376004) else ((spec_l1Below.f x1000 x1001 x1002 4).bind fun bt380 => (spec_l8DrawIns.j1 k x4 x1000 bt380.2.1 bt380.2.2 x376000 x376001 bt380.1 x376003 x376004))
def spec_l8DrawIns.j1 : Nat → Int → List Int → Int → Int → Int → Int → Int → Int → Int → Option (Int × Int × Int × Int × Int × Int × Int)
 | 0, _, _, _, _, _, _, _, _, _ => none
 | k + 1, x4, x1000, x1001, x1002, x376000, x376001, x376002, x376003, x376004 => if (Go.bits .and .i64 x4 4) = 0 then (if (Go.bits .and .i64 x4 8) = 0 then (some (x376000, x376001, x376002, x376003, x376004, x1001, x1002)) else ((spec_l1PickInt.f x1000 x1001 x1002 (([0, 1, 2, 4, 8, 9, 12, 20, 23] : List Int))).bind fun bt386 => (some (x376000, x376001, x376002, x376003, bt386.1, bt386.2.1, bt386.2.2)))) else ((spec_l1Below.f x1000 x1001 x1002 4).bind fun bt389 => (if (Go.bits .and .i64 x4 8) = 0 then (some (x376000, x376001, x376002, bt389.1, x376004, bt389.2.1, bt389.2.2)) else ((spec_l1PickInt.f x1000 bt389.2.1 bt389.2.2 (([0, 1, 2, 4, 8, 9, 12, 20, 23] : List Int))).bind fun bt395 => (some (x376000, x376001, x376002, bt389.1, bt395.1, bt395.2.1, bt395.2.2)))))
end
def spec_l8DrawIns.f (k : Nat) (s0_0 : List Int) (s0_1 : Int) (s0_2 : Int) : Option (Int × Int × Int × Int × Int × Int × Int) := (spec_l1PickInt.f s0_0 s0_1 s0_2 (([1, 1, 2, 3, 3, 4, 4, 5, 5, 5, 6, 6, 7, 8, 9, 10] : List Int))).bind fun bt372 => ((spec_l8Has.f bt372.1).bind fun t376 => (if (Go.bits .and .i64 t376 1) = 0 then (spec_l8DrawIns.j0 k t376 s0_0 bt372.2.1 bt372.2.2 bt372.1 0 0 0 0) else ((spec_l1Below.f s0_0 bt372.2.1 bt372.2.2 4).bind fun bt377 => (spec_l8DrawIns.j0 k t376 s0_0 bt377.2.1 bt377.2.2 bt372.1 bt377.1 0 0 0))))
theorem spec_l8DrawIns.mono_l : ∀ k, (∀ y0 y1 y2 y3 y4 y5 y6 y7 y8, LeO (spec_l8DrawIns.j0 k y0 y1 y2 y3 y4 y5 y6 y7 y8) (spec_l8DrawIns.j0 (k + 1) y0 y1 y2 y3 y4 y5 y6 y7 y8)) ∧ (∀ y0 y1 y2 y3 y4 y5 y6 y7 y8, LeO (spec_l8DrawIns.j1 k y0 y1 y2 y3 y4 y5 y6 y7 y8) (spec_l8DrawIns.j1 (k + 1) y0 y1 y2 y3 y4 y5 y6 y7 y8))
 | 0 => ⟨fun _ _ _ _ _ _ _ _ _ r h => by simp [spec_l8DrawIns.j0] at h, fun _ _ _ _ _ _ _ _ _ r h => by simp [spec_l8DrawIns.j1] at h⟩
 | k + 1 => by
  obtain ⟨ih0, ih1⟩ := spec_l8DrawIns.mono_l k
  refine ⟨?_, ?_⟩
  ·intros
   unfold spec_l8DrawIns.j0
   exact zL
  ·intros
   unfold spec_l8DrawIns.j1
   exact zL
theorem spec_l8DrawIns.mono : ∀ a0 a1 a2 k, LeO (spec_l8DrawIns.f k a0 a1 a2) (spec_l8DrawIns.f (k + 1) a0 a1 a2) := by
 intro a0 a1 a2 k
 obtain ⟨ih0, ih1⟩ := spec_l8DrawIns.mono_l k
 unfold spec_l8DrawIns.f
 exact zL
theorem spec_l8DrawIns.calls (k : Nat) (g : Nat) (s0_0 : List Int) (s0_1 : Int) (s0_2 : Int) (r1 : Int) (r2 : Int) (r3 : Int) (r4 : Int) (r5 : Int) (r6 : Int) (r7 : Int) (w0 w : World) (hI : IsS90 w0 w g s0_0 s0_1 s0_2) (hB : Below w0.heap.size w0 w) (h : spec_l8DrawIns.f k s0_0 s0_1 s0_2 = some (r1, r2, r3, r4, r5, r6, r7)) :
  Calls Try.prog 92 #[.pointer (some ⟨g, 0, none⟩)] w fun e w' => e = .returned (.agg #[.int .i64 r1, .int .i64 r2, .int .i64 r3, .int .i64 r4, .int .i64 r5]) ∧ IsS90 w0 w' g s0_0 r6 r7 ∧ Below w0.heap.size w0 w' ∧ KeepBut w w' g none := by
 have hu71 := Try.underlying71
 have HI0 := zM hI
 have HK := zM (KeepBut.refl w g none)
 have HL := zM hB.size
 clear hI
 have HW0 := zM hB.size
 have HB := zM hB
 clear hB
 unfold spec_l8DrawIns.f at h
 have H := h
 clear h
 generalize hy369 : ((([1, 1, 2, 3, 3, 4, 4, 5, 5, 5, 6, 6, 7, 8, 9, 10] : List Int)) : List Int) = y369 at H
 have Ny369 := zM hy369.symm
 clear hy369
 replace H := zO H
 obtain ⟨⟨t372, t373, t374⟩, A2, H⟩ := H
 try dsimp only at H
 replace H := zO H
 obtain ⟨t376, A3, H⟩ := H
 have HC4 := zM H
 clear H
 go_enter Try.func92, Try.ntmps92
 go_upto_if 14 with (first | ((with_reducible refine zBx 2 71 #[.int .i64 0, .int .i64 0, .int .i64 0, .int .i64 0, .int .i64 0] ?_); intro gb368 hg w5 hbox hb; replace HB := zM (below_step zB33 hb); have BK368 := zM hbox; have GW368 := zM ((by rw [hg]; exact (keep_size (w := w) (g := g) (row := none) zB34) : w.heap.size ≤ gb368)); have GE368 := zM ((Nat.le_trans HW0.1 (by rw [hg]; exact (keep_size (w := w) (g := g) (row := none) zB34) : w.heap.size ≤ gb368) : w0.heap.size ≤ gb368)); replace HK := zM (KeepBut.trans zB34 (KeepBut.of_below hb g none) (.inl rfl)); have NB0_368 := zM ((by rw [hg]; exact Nat.ne_of_lt (IsS90.lt (show IsS90 w0 _ g s0_0 s0_1 s0_2 from zB32)) : g ≠ gb368)); have NB368_0 := zM ((by rw [hg]; exact Nat.ne_of_gt (IsS90.lt (show IsS90 w0 _ g s0_0 s0_1 s0_2 from zB32)) : gb368 ≠ g)); replace HI0 := zM (IsS90.below zB32 hb); clear hb hbox hg) | ((with_reducible refine gate_dst (N := 6) rfl ?_); refine Kd.R_lit (Kd.int .i64) _ 3 ?hg (N := 6) ?hd (xs := ([1, 1, 2, 3, 3, 4, 4, 5, 5, 5, 6, 6, 7, 8, 9, 10] : List Int)) (inner := [.int .i64 1, .int .i64 1, .int .i64 2, .int .i64 3, .int .i64 3, .int .i64 4, .int .i64 4, .int .i64 5, .int .i64 5, .int .i64 5, .int .i64 6, .int .i64 6, .int .i64 7, .int .i64 8, .int .i64 9, .int .i64 10]) (ok := fun _ => True) (okp := fun _ => True) ?hr ?hp (fun _ hk => hk) trivial (Below.refl _ _) (Nat.le_refl _) (by simp) ?_; (case hd => rfl); (case hg => rfl); (case hr => exact zHH); (case hp => exact (Reps.one (show Kd.M (Kd.int .i64) _ _ _ 1 [.int .i64 1] from rfl) (Reps.one (show Kd.M (Kd.int .i64) _ _ _ 1 [.int .i64 1] from rfl) (Reps.one (show Kd.M (Kd.int .i64) _ _ _ 2 [.int .i64 2] from rfl) (Reps.one (show Kd.M (Kd.int .i64) _ _ _ 3 [.int .i64 3] from rfl) (Reps.one (show Kd.M (Kd.int .i64) _ _ _ 3 [.int .i64 3] from rfl) (Reps.one (show Kd.M (Kd.int .i64) _ _ _ 4 [.int .i64 4] from rfl) (Reps.one (show Kd.M (Kd.int .i64) _ _ _ 4 [.int .i64 4] from rfl) (Reps.one (show Kd.M (Kd.int .i64) _ _ _ 5 [.int .i64 5] from rfl) (Reps.one (show Kd.M (Kd.int .i64) _ _ _ 5 [.int .i64 5] from rfl) (Reps.one (show Kd.M (Kd.int .i64) _ _ _ 5 [.int .i64 5] from rfl) (Reps.one (show Kd.M (Kd.int .i64) _ _ _ 6 [.int .i64 6] from rfl) (Reps.one (show Kd.M (Kd.int .i64) _ _ _ 6 [.int .i64 6] from rfl) (Reps.one (show Kd.M (Kd.int .i64) _ _ _ 7 [.int .i64 7] from rfl) (Reps.one (show Kd.M (Kd.int .i64) _ _ _ 8 [.int .i64 8] from rfl) (Reps.one (show Kd.M (Kd.int .i64) _ _ _ 9 [.int .i64 9] from rfl) (Reps.one (show Kd.M (Kd.int .i64) _ _ _ 10 [.int .i64 10] from rfl) (Reps.none _ _)))))))))))))))))); intro v370 w6 ho7 hb hg_ hnew_; clear hg_ hnew_; (first | rw [← Ny369.1] at ho7 | (simp only [Int.reduceToNat] at ho7; rw [← Ny369.1] at ho7)); have HO371 := zM (Kd.R_lower ho7 (keep_size (w := w) (g := g) (row := none) zB34)); replace BK368 := zM (zb BK368.1 hb); replace HK := zM (KeepBut.trans zB34 (KeepBut.of_below hb g none) (.inl rfl)); replace HB := zM (below_step zB33 hb); replace HI0 := zM (IsS90.below zB37 hb); clear hb ho7; obtain ⟨Ao8, co8, eo8⟩ := Kd.R_slice HO371.1; subst eo8) | ((with_reducible refine zG Try.func61 7 #[.pointer (some ⟨g, 0, none⟩), .slice Ao8 y369.length co8] ?_); (with_reducible refine (spec_l1PickInt.calls g s0_0 s0_1 s0_2 _ _ y369 t372 t373 t374 w0 _ ?side1 ?side2 ?side3 ?side4 ?side5 A2.1).mono ?_); (case side1 => exact zB37); (case side2 => exact zB33); (case side3 => exact zC (Kd.R_reads' HO371.1).2.2); (case side4 => exact (Kd.R_reads' HO371.1).2.1); (case side5 => exact far_slice (IsS90.own_ne HI0.1 HO371.1 (by decide))); rintro e w9 ⟨rfl, hi, hb, hk⟩; refine ⟨_, rfl, ?_⟩; replace BK368 := zM (zh hk BK368.1 NB368_0.1); replace HO371 := zM (Kd.R_mono (Kd.R_keep (IsS90.apart (show IsS90 w0 _ g s0_0 s0_1 s0_2 from zB37) (zR HO371.1) (by decide)) hk (fun _ h => h.2)) (fun _ h => h.1)); replace HK := zM (KeepBut.trans zB34 hk (.inl rfl)); replace HB := zM hb; replace HI0 := zM hi; clear hb hk hi) | ((with_reducible refine zBx 3 71 #[.int .i64 0, .int .i64 0, .int .i64 0, .int .i64 0, .int .i64 0] ?_); intro gb375 hg w10 hbox hb; replace HO371 := zM (Kd.R_below (zR HO371.1) hb); replace HB := zM (below_step zB33 hb); have BK375 := zM hbox; have GW375 := zM ((by rw [hg]; exact (keep_size (w := w) (g := g) (row := none) zB34) : w.heap.size ≤ gb375)); have GE375 := zM ((Nat.le_trans HW0.1 (by rw [hg]; exact (keep_size (w := w) (g := g) (row := none) zB34) : w.heap.size ≤ gb375) : w0.heap.size ≤ gb375)); replace HK := zM (KeepBut.trans zB34 (KeepBut.of_below hb g none) (.inl rfl)); have NB368_375 := zM ((zn BK368.1 hg : gb368 ≠ gb375)); have NB375_368 := zM ((zm BK368.1 hg : gb375 ≠ gb368)); replace BK368 := zM (zb BK368.1 hb); have NB0_375 := zM ((by rw [hg]; exact Nat.ne_of_lt (IsS90.lt (show IsS90 w0 _ g s0_0 t373 t374 from zB37)) : g ≠ gb375)); have NB375_0 := zM ((by rw [hg]; exact Nat.ne_of_gt (IsS90.lt (show IsS90 w0 _ g s0_0 t373 t374 from zB37)) : gb375 ≠ g)); replace HI0 := zM (IsS90.below zB37 hb); clear hb hbox hg; have hnb11 := NB375_368.1; have hnc11 := NB368_375.1; have hnb12 := NB375_0.1; have hnc12 := NB0_375.1; have hcz13 := zc_5 (w := w10) BK375.1) | ((with_reducible refine zG Try.func95 11 #[.int .i64 t372] ?_); (with_reducible refine (spec_l8Has.calls t372 t376 _ A3.1).mono ?_); rintro e w14 ⟨rfl, hb⟩; refine ⟨_, rfl, ?_⟩; replace HO371 := zM (Kd.R_below (by refine zrR ?_; exact (Kd.R_mono (zfR (zfR (zfR (zfR (zfR (Kd.R_types HO371.1 BK375.1 (by decide))))))) (fun _ h_ => h_.1))) hb); replace BK368 := zM (zf BK368.1 hb); replace BK375 := zM (blk_below (g := gb375) (o := .cells #[.int .i64 t372, .int .i64 0, .int .i64 0, .int .i64 0, .int .i64 0] 71 (0, 0)) (by exact zp5 (zK BK375.1)) hb); replace HK := zM (KeepBut.trans zB34 (KeepBut.of_below hb g none) (.inl rfl)); replace HB := zM (below_step zB33 hb); replace HI0 := zM (IsS90.below (show IsS90 w0 (((((w10.setCell ⟨gb375, 0, none⟩ (.int .i64 t372)).setCell ⟨gb375, 1, none⟩ (.int .i64 0)).setCell ⟨gb375, 2, none⟩ (.int .i64 0)).setCell ⟨gb375, 3, none⟩ (.int .i64 0)).setCell ⟨gb375, 4, none⟩ (.int .i64 0)) g s0_0 t373 t374 from zB39) hb); clear hb))
 (try simp only [Act.put, List.setIfInBounds_toArray, List.set_cons_zero, List.set_cons_succ])
 go_cut [] (fun wc => ∃ (kq : Nat) (x1001_3 : Int) (x1002_3 : Int) (x376001_3 : Int), Aside0 (spec_l8DrawIns.j0 kq t376 s0_0 x1001_3 x1002_3 t372 x376001_3 0 0 0 = some (r1, r2, r3, r4, r5, r6, r7)) ∧ Aside0 (kq ≤ k) ∧ Aside0 (wc.heap[gb368]? = some (.cells #[.int .i64 0, .int .i64 0, .int .i64 0, .int .i64 0, .int .i64 0] 71 (0, 0))) ∧ Aside0 (wc.heap[gb375]? = some (.cells #[.int .i64 t372, .int .i64 x376001_3, .int .i64 0, .int .i64 0, .int .i64 0] 71 (0, 0))) ∧ Aside0 (IsS90 w0 wc g s0_0 x1001_3 x1002_3) ∧ Aside0 (KeepBut w wc g none) ∧ Aside0 (Below w0.heap.size w0 wc))
 case first =>
  have H := HC4.1
  clear HC4
  by_cases c15 : (Go.bits .and .i64 t376 1) = 0
  ·rw [if_pos c15] at H
   have c15b0 : ((Go.bits .and .i64 t376 1) == 0) = true := beq_iff_eq.mpr c15
   have c15b1 : ((Go.bits .and .i64 t376 1) != 0) = false := bne_eq_false_iff_eq.mpr c15
   clear c15
   (first | rw [c15b0] | (simp only [i64_w, i32_w]; rw [c15b0]) | skip)
   have H' := zM H
   clear H
   go_wp2
   go_meet
   case rel => exact ⟨_, (t373), (t374), (0), H', ⟨by first | omega | exact Nat.le_refl _⟩, ⟨zK BK368.1⟩, ⟨zK BK375.1⟩, ⟨zB39⟩, ⟨zB34⟩, ⟨zB33⟩⟩
  rw [if_neg c15] at H
  have c15b0 : ((Go.bits .and .i64 t376 1) == 0) = false := beq_eq_false_iff_ne.mpr c15
  have c15b1 : ((Go.bits .and .i64 t376 1) != 0) = true := bne_iff_ne.mpr c15
  (first | rw [c15b0] | (simp only [i64_w, i32_w]; rw [c15b0]) | skip)
  replace H := zO H
  obtain ⟨⟨t377, t378, t379⟩, A16, H⟩ := H
  try dsimp only at H
  have H' := zM H
  clear H
  go_wp2_with (first | ((with_reducible refine zG Try.func42 16 #[.pointer (some ⟨g, 0, none⟩), .int .i64 4] ?_); (with_reducible refine (spec_l1Below.calls g s0_0 t373 t374 4 t377 t378 t379 w0 _ ?side1 ?side2 A16.1).mono ?_); (case side1 => exact zB39); (case side2 => exact zB33); rintro e w17 ⟨rfl, hi, hb, hk⟩; refine ⟨_, rfl, ?_⟩; replace BK368 := zM (zh hk BK368.1 NB368_0.1); replace HO371 := zM (Kd.R_mono (Kd.R_keep (IsS90.apart (show IsS90 w0 _ g s0_0 t373 t374 from zB39) (zR HO371.1) (by decide)) hk (fun _ h => h.2)) (fun _ h => h.1)); replace BK375 := zM (zh hk BK375.1 NB375_0.1); replace HK := zM (KeepBut.trans zB34 hk (.inl rfl)); replace HB := zM hb; replace HI0 := zM hi; clear hb hk hi; have hnb18 := NB375_368.1; have hnc18 := NB368_375.1; have hnb19 := NB375_0.1; have hnc19 := NB0_375.1; have hcz20 := zc_5 (w := w17) BK375.1))
  go_meet
  case rel => exact ⟨_, (t378), (t379), (t377), H', ⟨by first | omega | exact Nat.le_refl _⟩, ⟨by refine zP ?_; refine blk_far ?_ NB368_375.1 _; refine zP ?_; exact BK368.1⟩, ⟨by refine zP ?_; refine blk_put (cs := #[.int .i64 t372, .int .i64 0, .int .i64 0, .int .i64 0, .int .i64 0]) ?_ 1 _ rfl; refine zP ?_; exact BK375.1⟩, ⟨zB39⟩, ⟨zB34⟩, ⟨zB33⟩⟩
 case rest =>
  clear HC4
  obtain ⟨kq, x1001_3, x1002_3, x376001_3, HA, HJ3, BK368, BK375, HI0, HK, HB⟩ := hcut
  cases kq with
  | zero => exact absurd HA.1 (by simp [spec_l8DrawIns.j0])
  | succ kj3 =>
   have H := HA.1
   clear HA
   simp only [spec_l8DrawIns.j0] at H
   have HC21 := zM H
   clear H
   go_upto_if 20 with (fail)
   go_cut [] (fun wc => ∃ (kq : Nat) (x1001_20 : Int) (x1002_20 : Int) (x376002_20 : Int), Aside0 (spec_l8DrawIns.j1 kq t376 s0_0 x1001_20 x1002_20 t372 x376001_3 x376002_20 0 0 = some (r1, r2, r3, r4, r5, r6, r7)) ∧ Aside0 (kq ≤ kj3) ∧ Aside0 (wc.heap[gb368]? = some (.cells #[.int .i64 0, .int .i64 0, .int .i64 0, .int .i64 0, .int .i64 0] 71 (0, 0))) ∧ Aside0 (wc.heap[gb375]? = some (.cells #[.int .i64 t372, .int .i64 x376001_3, .int .i64 x376002_20, .int .i64 0, .int .i64 0] 71 (0, 0))) ∧ Aside0 (IsS90 w0 wc g s0_0 x1001_20 x1002_20) ∧ Aside0 (KeepBut w wc g none) ∧ Aside0 (Below w0.heap.size w0 wc))
   case first =>
    have H := HC21.1
    clear HC21
    by_cases c22 : (Go.bits .and .i64 t376 2) = 0
    ·rw [if_pos c22] at H
     have c22b0 : ((Go.bits .and .i64 t376 2) == 0) = true := beq_iff_eq.mpr c22
     have c22b1 : ((Go.bits .and .i64 t376 2) != 0) = false := bne_eq_false_iff_eq.mpr c22
     clear c22
     (first | rw [c22b0] | (simp only [i64_w, i32_w]; rw [c22b0]) | skip)
     have H' := zM H
     clear H
     go_wp2
     go_meet
     case rel => exact ⟨_, (x1001_3), (x1002_3), (0), H', ⟨by have := HJ3.1; first | omega | exact Nat.le_refl _⟩, ⟨zK BK368.1⟩, ⟨zK BK375.1⟩, ⟨zB39⟩, ⟨zB34⟩, ⟨zB33⟩⟩
    rw [if_neg c22] at H
    have c22b0 : ((Go.bits .and .i64 t376 2) == 0) = false := beq_eq_false_iff_ne.mpr c22
    have c22b1 : ((Go.bits .and .i64 t376 2) != 0) = true := bne_iff_ne.mpr c22
    (first | rw [c22b0] | (simp only [i64_w, i32_w]; rw [c22b0]) | skip)
    replace H := zO H
    obtain ⟨⟨t380, t381, t382⟩, A23, H⟩ := H
    try dsimp only at H
    have H' := zM H
    clear H
    go_wp2_with (first | ((with_reducible refine zG Try.func42 22 #[.pointer (some ⟨g, 0, none⟩), .int .i64 4] ?_); (with_reducible refine (spec_l1Below.calls g s0_0 x1001_3 x1002_3 4 t380 t381 t382 w0 _ ?side1 ?side2 A23.1).mono ?_); (case side1 => exact zB39); (case side2 => exact zB33); rintro e w24 ⟨rfl, hi, hb, hk⟩; refine ⟨_, rfl, ?_⟩; replace BK368 := zM (zh hk BK368.1 NB368_0.1); replace BK375 := zM (zh hk BK375.1 NB375_0.1); replace HK := zM (KeepBut.trans zB34 hk (.inl rfl)); replace HB := zM hb; replace HI0 := zM hi; clear hb hk hi; have hnb25 := NB375_368.1; have hnc25 := NB368_375.1; have hnb26 := NB375_0.1; have hnc26 := NB0_375.1; have hcz27 := zc_5 (w := w24) BK375.1))
    go_meet
    case rel => exact ⟨_, (t381), (t382), (t380), H', ⟨by have := HJ3.1; first | omega | exact Nat.le_refl _⟩, ⟨by refine zP ?_; refine blk_far ?_ NB368_375.1 _; refine zP ?_; exact BK368.1⟩, ⟨by refine zP ?_; refine blk_put (cs := #[.int .i64 t372, .int .i64 x376001_3, .int .i64 0, .int .i64 0, .int .i64 0]) ?_ 2 _ rfl; refine zP ?_; exact BK375.1⟩, ⟨zB39⟩, ⟨zB34⟩, ⟨zB33⟩⟩
   case rest =>
    clear HC21
    obtain ⟨kq, x1001_20, x1002_20, x376002_20, HA, HJ20, BK368, BK375, HI0, HK, HB⟩ := hcut
    cases kq with
    | zero => exact absurd HA.1 (by simp [spec_l8DrawIns.j1])
    | succ kj20 =>
     have H := HA.1
     clear HA
     simp only [spec_l8DrawIns.j1] at H
     by_cases c28 : (Go.bits .and .i64 t376 4) = 0
     ·rw [if_pos c28] at H
      have c28b0 : ((Go.bits .and .i64 t376 4) == 0) = true := beq_iff_eq.mpr c28
      have c28b1 : ((Go.bits .and .i64 t376 4) != 0) = false := bne_eq_false_iff_eq.mpr c28
      clear c28
      by_cases c29 : (Go.bits .and .i64 t376 8) = 0
      ·rw [if_pos c29] at H
       have c29b0 : ((Go.bits .and .i64 t376 8) == 0) = true := beq_iff_eq.mpr c29
       have c29b1 : ((Go.bits .and .i64 t376 8) != 0) = false := bne_eq_false_iff_eq.mpr c29
       clear c29
       simp only [Option.some.injEq, Prod.mk.injEq] at H
       obtain ⟨rfl, rfl, rfl, rfl, rfl, rfl, rfl⟩ := H
       have hnb30 := NB375_368.1
       have hnc30 := NB368_375.1
       have hnb31 := NB375_0.1
       have hnc31 := NB0_375.1
       have hcz32 := zc_5 (w := wc) BK375.1
       have hnb33 := NB368_0.1
       have hnc33 := NB0_368.1
       have hcz34 := zc_5 (w := wc) BK368.1
       go_wp2
       refine bodyPost_ret (results_cell_row rfl _ _ gb368 71 #[.int .i64 t372, .int .i64 x376001_3, .int .i64 x376002_20, .int .i64 0, .int .i64 0] (0, 0) _ rfl (by exact zp5 (zK BK368.1)) Try.underlying71 rfl (by kernel_rfl)) rfl ?_
       exact ⟨zE, zB39, zB33, zB34⟩
      rw [if_neg c29] at H
      have c29b0 : ((Go.bits .and .i64 t376 8) == 0) = false := beq_eq_false_iff_ne.mpr c29
      have c29b1 : ((Go.bits .and .i64 t376 8) != 0) = true := bne_iff_ne.mpr c29
      generalize hy383 : ((([0, 1, 2, 4, 8, 9, 12, 20, 23] : List Int)) : List Int) = y383 at H
      have Ny383 := zM hy383.symm
      clear hy383
      replace H := zO H
      obtain ⟨⟨t386, t387, t388⟩, A35, H⟩ := H
      try dsimp only at H
      simp only [Option.some.injEq, Prod.mk.injEq] at H
      obtain ⟨rfl, rfl, rfl, rfl, rfl, rfl, rfl⟩ := H
      go_wp2_with (first | ((with_reducible refine gate_dst (N := 34) rfl ?_); refine Kd.R_lit (Kd.int .i64) _ 3 ?hg (N := 34) ?hd (xs := ([0, 1, 2, 4, 8, 9, 12, 20, 23] : List Int)) (inner := [.int .i64 0, .int .i64 1, .int .i64 2, .int .i64 4, .int .i64 8, .int .i64 9, .int .i64 12, .int .i64 20, .int .i64 23]) (ok := fun _ => True) (okp := fun _ => True) ?hr ?hp (fun _ hk => hk) trivial (Below.refl _ _) (Nat.le_refl _) (by simp) ?_; (case hd => rfl); (case hg => rfl); (case hr => exact zHH); (case hp => exact (Reps.one (show Kd.M (Kd.int .i64) _ _ _ 0 [.int .i64 0] from rfl) (Reps.one (show Kd.M (Kd.int .i64) _ _ _ 1 [.int .i64 1] from rfl) (Reps.one (show Kd.M (Kd.int .i64) _ _ _ 2 [.int .i64 2] from rfl) (Reps.one (show Kd.M (Kd.int .i64) _ _ _ 4 [.int .i64 4] from rfl) (Reps.one (show Kd.M (Kd.int .i64) _ _ _ 8 [.int .i64 8] from rfl) (Reps.one (show Kd.M (Kd.int .i64) _ _ _ 9 [.int .i64 9] from rfl) (Reps.one (show Kd.M (Kd.int .i64) _ _ _ 12 [.int .i64 12] from rfl) (Reps.one (show Kd.M (Kd.int .i64) _ _ _ 20 [.int .i64 20] from rfl) (Reps.one (show Kd.M (Kd.int .i64) _ _ _ 23 [.int .i64 23] from rfl) (Reps.none _ _))))))))))); intro v384 w36 ho37 hb hg_ hnew_; clear hg_ hnew_; (first | rw [← Ny383.1] at ho37 | (simp only [Int.reduceToNat] at ho37; rw [← Ny383.1] at ho37)); have HO385 := zM (Kd.R_lower ho37 (keep_size (w := w) (g := g) (row := none) zB34)); replace BK368 := zM (zb BK368.1 hb); replace BK375 := zM (zb BK375.1 hb); replace HK := zM (KeepBut.trans zB34 (KeepBut.of_below hb g none) (.inl rfl)); replace HB := zM (below_step zB33 hb); replace HI0 := zM (IsS90.below zB39 hb); clear hb ho37; obtain ⟨Ao38, co38, eo38⟩ := Kd.R_slice HO385.1; subst eo38) | ((with_reducible refine zG Try.func61 35 #[.pointer (some ⟨g, 0, none⟩), .slice Ao38 y383.length co38] ?_); (with_reducible refine (spec_l1PickInt.calls g s0_0 x1001_20 x1002_20 _ _ y383 t386 t387 t388 w0 _ ?side1 ?side2 ?side3 ?side4 ?side5 A35.1).mono ?_); (case side1 => exact zB39); (case side2 => exact zB33); (case side3 => exact zC (Kd.R_reads' HO385.1).2.2); (case side4 => exact (Kd.R_reads' HO385.1).2.1); (case side5 => exact far_slice (IsS90.own_ne HI0.1 HO385.1 (by decide))); rintro e w39 ⟨rfl, hi, hb, hk⟩; refine ⟨_, rfl, ?_⟩; replace BK368 := zM (zh hk BK368.1 NB368_0.1); replace BK375 := zM (zh hk BK375.1 NB375_0.1); replace HO385 := zM (Kd.R_mono (Kd.R_keep (IsS90.apart (show IsS90 w0 _ g s0_0 x1001_20 x1002_20 from zB39) (zR HO385.1) (by decide)) hk (fun _ h => h.2)) (fun _ h => h.1)); replace HK := zM (KeepBut.trans zB34 hk (.inl rfl)); replace HB := zM hb; replace HI0 := zM hi; clear hb hk hi; have hnb40 := NB375_368.1; have hnc40 := NB368_375.1; have hnb41 := NB375_0.1; have hnc41 := NB0_375.1; have hcz42 := zc_5 (w := w39) BK375.1; have hnb43 := NB368_0.1; have hnc43 := NB0_368.1; have hcz44 := zc_5 (w := w39) BK368.1))
      refine bodyPost_ret (results_cell_row rfl _ _ gb368 71 #[.int .i64 t372, .int .i64 x376001_3, .int .i64 x376002_20, .int .i64 0, .int .i64 t386] (0, 0) _ rfl (by refine zP ?_; refine blk_put (cs := #[.int .i64 t372, .int .i64 x376001_3, .int .i64 x376002_20, .int .i64 0, .int .i64 0]) ?_ 4 _ rfl; refine zP ?_; refine blk_put (cs := #[.int .i64 t372, .int .i64 x376001_3, .int .i64 x376002_20, .int .i64 0, .int .i64 0]) ?_ 3 _ rfl; refine zP ?_; refine blk_put (cs := #[.int .i64 t372, .int .i64 x376001_3, .int .i64 0, .int .i64 0, .int .i64 0]) ?_ 2 _ rfl; refine zP ?_; refine blk_put (cs := #[.int .i64 t372, .int .i64 0, .int .i64 0, .int .i64 0, .int .i64 0]) ?_ 1 _ rfl; refine zP ?_; refine blk_put (cs := #[.int .i64 0, .int .i64 0, .int .i64 0, .int .i64 0, .int .i64 0]) ?_ 0 _ rfl; refine zP ?_; refine blk_far ?_ NB368_375.1 _; refine zP ?_; exact BK368.1) Try.underlying71 rfl (by kernel_rfl)) rfl ?_
      exact ⟨zE, zB39, zB33, zB34⟩
     rw [if_neg c28] at H
     have c28b0 : ((Go.bits .and .i64 t376 4) == 0) = false := beq_eq_false_iff_ne.mpr c28
     have c28b1 : ((Go.bits .and .i64 t376 4) != 0) = true := bne_iff_ne.mpr c28
     replace H := zO H
     obtain ⟨⟨t389, t390, t391⟩, A45, H⟩ := H
     try dsimp only at H
     by_cases c46 : (Go.bits .and .i64 t376 8) = 0
     ·rw [if_pos c46] at H
      have c46b0 : ((Go.bits .and .i64 t376 8) == 0) = true := beq_iff_eq.mpr c46
      have c46b1 : ((Go.bits .and .i64 t376 8) != 0) = false := bne_eq_false_iff_eq.mpr c46
      clear c46
      simp only [Option.some.injEq, Prod.mk.injEq] at H
      obtain ⟨rfl, rfl, rfl, rfl, rfl, rfl, rfl⟩ := H
      go_wp2_with (first | ((with_reducible refine zG Try.func42 28 #[.pointer (some ⟨g, 0, none⟩), .int .i64 4] ?_); (with_reducible refine (spec_l1Below.calls g s0_0 x1001_20 x1002_20 4 t389 t390 t391 w0 _ ?side1 ?side2 A45.1).mono ?_); (case side1 => exact zB39); (case side2 => exact zB33); rintro e w47 ⟨rfl, hi, hb, hk⟩; refine ⟨_, rfl, ?_⟩; replace BK368 := zM (zh hk BK368.1 NB368_0.1); replace BK375 := zM (zh hk BK375.1 NB375_0.1); replace HK := zM (KeepBut.trans zB34 hk (.inl rfl)); replace HB := zM hb; replace HI0 := zM hi; clear hb hk hi; have hnb48 := NB375_368.1; have hnc48 := NB368_375.1; have hnb49 := NB375_0.1; have hnc49 := NB0_375.1; have hcz50 := zc_5 (w := w47) BK375.1; have hnb51 := NB368_0.1; have hnc51 := NB0_368.1; have hcz52 := zc_5 (w := w47) BK368.1))
      refine bodyPost_ret (results_cell_row rfl _ _ gb368 71 #[.int .i64 t372, .int .i64 x376001_3, .int .i64 x376002_20, .int .i64 t389, .int .i64 0] (0, 0) _ rfl (by refine zP ?_; refine blk_put (cs := #[.int .i64 t372, .int .i64 x376001_3, .int .i64 x376002_20, .int .i64 t389, .int .i64 0]) ?_ 4 _ rfl; refine zP ?_; refine blk_put (cs := #[.int .i64 t372, .int .i64 x376001_3, .int .i64 x376002_20, .int .i64 0, .int .i64 0]) ?_ 3 _ rfl; refine zP ?_; refine blk_put (cs := #[.int .i64 t372, .int .i64 x376001_3, .int .i64 0, .int .i64 0, .int .i64 0]) ?_ 2 _ rfl; refine zP ?_; refine blk_put (cs := #[.int .i64 t372, .int .i64 0, .int .i64 0, .int .i64 0, .int .i64 0]) ?_ 1 _ rfl; refine zP ?_; refine blk_put (cs := #[.int .i64 0, .int .i64 0, .int .i64 0, .int .i64 0, .int .i64 0]) ?_ 0 _ rfl; refine zP ?_; refine blk_far ?_ NB368_375.1 _; refine zP ?_; exact BK368.1) Try.underlying71 rfl (by kernel_rfl)) rfl ?_
      exact ⟨zE, zB39, zB33, zB34⟩
     rw [if_neg c46] at H
     have c46b0 : ((Go.bits .and .i64 t376 8) == 0) = false := beq_eq_false_iff_ne.mpr c46
     have c46b1 : ((Go.bits .and .i64 t376 8) != 0) = true := bne_iff_ne.mpr c46
     generalize hy392 : ((([0, 1, 2, 4, 8, 9, 12, 20, 23] : List Int)) : List Int) = y392 at H
     have Ny392 := zM hy392.symm
     clear hy392
     replace H := zO H
     obtain ⟨⟨t395, t396, t397⟩, A53, H⟩ := H
     try dsimp only at H
     simp only [Option.some.injEq, Prod.mk.injEq] at H
     obtain ⟨rfl, rfl, rfl, rfl, rfl, rfl, rfl⟩ := H
     go_wp2_with (first | ((with_reducible refine zG Try.func42 28 #[.pointer (some ⟨g, 0, none⟩), .int .i64 4] ?_); (with_reducible refine (spec_l1Below.calls g s0_0 x1001_20 x1002_20 4 t389 t390 t391 w0 _ ?side1 ?side2 A45.1).mono ?_); (case side1 => exact zB39); (case side2 => exact zB33); rintro e w54 ⟨rfl, hi, hb, hk⟩; refine ⟨_, rfl, ?_⟩; replace BK368 := zM (zh hk BK368.1 NB368_0.1); replace BK375 := zM (zh hk BK375.1 NB375_0.1); replace HK := zM (KeepBut.trans zB34 hk (.inl rfl)); replace HB := zM hb; replace HI0 := zM hi; clear hb hk hi; have hnb55 := NB375_368.1; have hnc55 := NB368_375.1; have hnb56 := NB375_0.1; have hnc56 := NB0_375.1; have hcz57 := zc_5 (w := w54) BK375.1) | ((with_reducible refine gate_dst (N := 34) rfl ?_); refine Kd.R_lit (Kd.int .i64) _ 3 ?hg (N := 34) ?hd (xs := ([0, 1, 2, 4, 8, 9, 12, 20, 23] : List Int)) (inner := [.int .i64 0, .int .i64 1, .int .i64 2, .int .i64 4, .int .i64 8, .int .i64 9, .int .i64 12, .int .i64 20, .int .i64 23]) (ok := fun _ => True) (okp := fun _ => True) ?hr ?hp (fun _ hk => hk) trivial (Below.refl _ _) (Nat.le_refl _) (by simp) ?_; (case hd => rfl); (case hg => rfl); (case hr => exact zHH); (case hp => exact (Reps.one (show Kd.M (Kd.int .i64) _ _ _ 0 [.int .i64 0] from rfl) (Reps.one (show Kd.M (Kd.int .i64) _ _ _ 1 [.int .i64 1] from rfl) (Reps.one (show Kd.M (Kd.int .i64) _ _ _ 2 [.int .i64 2] from rfl) (Reps.one (show Kd.M (Kd.int .i64) _ _ _ 4 [.int .i64 4] from rfl) (Reps.one (show Kd.M (Kd.int .i64) _ _ _ 8 [.int .i64 8] from rfl) (Reps.one (show Kd.M (Kd.int .i64) _ _ _ 9 [.int .i64 9] from rfl) (Reps.one (show Kd.M (Kd.int .i64) _ _ _ 12 [.int .i64 12] from rfl) (Reps.one (show Kd.M (Kd.int .i64) _ _ _ 20 [.int .i64 20] from rfl) (Reps.one (show Kd.M (Kd.int .i64) _ _ _ 23 [.int .i64 23] from rfl) (Reps.none _ _))))))))))); intro v393 w58 ho59 hb hg_ hnew_; clear hg_ hnew_; (first | rw [← Ny392.1] at ho59 | (simp only [Int.reduceToNat] at ho59; rw [← Ny392.1] at ho59)); have HO394 := zM (Kd.R_lower ho59 (keep_size (w := w) (g := g) (row := none) zB34)); replace BK368 := zM (zf BK368.1 hb); replace BK375 := zM (blk_below (g := gb375) (o := .cells #[.int .i64 t372, .int .i64 x376001_3, .int .i64 x376002_20, .int .i64 t389, .int .i64 0] 71 (0, 0)) (by refine zP ?_; refine blk_put (cs := #[.int .i64 t372, .int .i64 x376001_3, .int .i64 x376002_20, .int .i64 0, .int .i64 0]) ?_ 3 _ rfl; refine zP ?_; exact BK375.1) hb); replace HK := zM (KeepBut.trans zB34 (KeepBut.of_below hb g none) (.inl rfl)); replace HB := zM (below_step zB33 hb); replace HI0 := zM (IsS90.below (show IsS90 w0 (w54.setCell ⟨gb375, 3, none⟩ (.int .i64 t389)) g s0_0 t390 t391 from zB39) hb); clear hb ho59; obtain ⟨Ao60, co60, eo60⟩ := Kd.R_slice HO394.1; subst eo60) | ((with_reducible refine zG Try.func61 35 #[.pointer (some ⟨g, 0, none⟩), .slice Ao60 y392.length co60] ?_); (with_reducible refine (spec_l1PickInt.calls g s0_0 t390 t391 _ _ y392 t395 t396 t397 w0 _ ?side1 ?side2 ?side3 ?side4 ?side5 A53.1).mono ?_); (case side1 => exact zB39); (case side2 => exact zB33); (case side3 => exact zC (Kd.R_reads' HO394.1).2.2); (case side4 => exact (Kd.R_reads' HO394.1).2.1); (case side5 => exact far_slice (IsS90.own_ne HI0.1 HO394.1 (by decide))); rintro e w61 ⟨rfl, hi, hb, hk⟩; refine ⟨_, rfl, ?_⟩; replace BK368 := zM (zh hk BK368.1 NB368_0.1); replace BK375 := zM (zh hk BK375.1 NB375_0.1); replace HO394 := zM (Kd.R_mono (Kd.R_keep (IsS90.apart (show IsS90 w0 _ g s0_0 t390 t391 from zB39) (zR HO394.1) (by decide)) hk (fun _ h => h.2)) (fun _ h => h.1)); replace HK := zM (KeepBut.trans zB34 hk (.inl rfl)); replace HB := zM hb; replace HI0 := zM hi; clear hb hk hi; have hcz62 := zc_5 (w := w61) BK375.1; have hnb63 := NB368_0.1; have hnc63 := NB0_368.1; have hcz64 := zc_5 (w := w61) BK368.1))
     refine bodyPost_ret (results_cell_row rfl _ _ gb368 71 #[.int .i64 t372, .int .i64 x376001_3, .int .i64 x376002_20, .int .i64 t389, .int .i64 t395] (0, 0) _ rfl (by refine zP ?_; refine blk_put (cs := #[.int .i64 t372, .int .i64 x376001_3, .int .i64 x376002_20, .int .i64 t389, .int .i64 0]) ?_ 4 _ rfl; refine zP ?_; refine blk_put (cs := #[.int .i64 t372, .int .i64 x376001_3, .int .i64 x376002_20, .int .i64 0, .int .i64 0]) ?_ 3 _ rfl; refine zP ?_; refine blk_put (cs := #[.int .i64 t372, .int .i64 x376001_3, .int .i64 0, .int .i64 0, .int .i64 0]) ?_ 2 _ rfl; refine zP ?_; refine blk_put (cs := #[.int .i64 t372, .int .i64 0, .int .i64 0, .int .i64 0, .int .i64 0]) ?_ 1 _ rfl; refine zP ?_; refine blk_put (cs := #[.int .i64 0, .int .i64 0, .int .i64 0, .int .i64 0, .int .i64 0]) ?_ 0 _ rfl; refine zP ?_; refine blk_far ?_ NB368_375.1 _; refine zP ?_; exact BK368.1) Try.underlying71 rfl (by kernel_rfl)) rfl ?_
     exact ⟨zE, zB39, zB33, zB34⟩

/-! ### spec_l9DrawMem: function 81 -/
mutual
def spec_l9DrawMem.l0 : Nat → List Int → Int → List Int → Int → Int → Option (List Int × Int × Int)
 | 0, _, _, _, _, _ => none
 | k + 1, x3, x4, x1000, x1001, x1002 => if x4 < 24 then ((spec_l8DrawIns.f k x1000 x1001 x1002).bind fun bt401 => ((spec_Code.f bt401.1 bt401.2.1 bt401.2.2.1 bt401.2.2.2.1 bt401.2.2.2.2.1).bind fun bt408 => (if x4 > 15 then ((spec_l1PickInt.f x1000 bt401.2.2.2.2.2.1 bt401.2.2.2.2.2.2 (([0, 1, 5, 65535] : List Int))).bind fun bt413 => (if x3.length < 17592186044416 then (spec_l9DrawMem.l0 k (x3 ++ [bt413.1]) (wrap64 (x4 + 1)) x1000 bt413.2.1 bt413.2.2) else (none))) else ((spec_l1Once.f x1000 bt401.2.2.2.2.2.1 bt401.2.2.2.2.2.2 9).bind fun bt419 => (if bt419.1 = true then ((spec_l1PickInt.f x1000 bt419.2.1 bt419.2.2 (([0, 1, 5, 65535] : List Int))).bind fun bt425 => (if x3.length < 17592186044416 then (spec_l9DrawMem.l0 k (x3 ++ [bt425.1]) (wrap64 (x4 + 1)) x1000 bt425.2.1 bt425.2.2) else (none))) else (if x3.length < 17592186044416 then (spec_l9DrawMem.l0 k (x3 ++ [bt408.1]) (wrap64 (x4 + 1)) x1000 bt419.2.1 bt419.2.2) else (none))))))) else ((spec_l1Below.f x1000 x1001 x1002 4).bind fun bt434 => (if bt434.1 = 0 then (spec_l9DrawMem.l1 k x3 (([(⟨1, 1, 0, 0, 1⟩ : S71), (⟨6, 2, 0, 1, 20⟩ : S71), (⟨10, 3, 2, 1, 0⟩ : S71), (⟨8, 0, 0, 0, 1⟩ : S71)] : List (S71))) 0 x1000 bt434.2.1 bt434.2.2) else (if bt434.1 = 1 then (spec_l9DrawMem.l2 k x3 (([(⟨4, 1, 0, 0, 8⟩ : S71), (⟨3, 1, 1, 0, 1⟩ : S71), (⟨5, 0, 0, 1, 8⟩ : S71), (⟨8, 0, 0, 0, 8⟩ : S71)] : List (S71))) 0 x1000 bt434.2.1 bt434.2.2) else (some (x3, bt434.2.1, bt434.2.2)))))
def spec_l9DrawMem.l1 : Nat → List Int → List (S71) → Int → List Int → Int → Int → Option (List Int × Int × Int)
 | 0, _, _, _, _, _, _ => none
 | k + 1, x3, x7, x8, x1000, x1001, x1002 => if x8 < (x7.length : Int) then (if 0 ≤ x8 then ((spec_Code.f ((rd_T71 x7 x8).f0) ((rd_T71 x7 x8).f1) ((rd_T71 x7 x8).f2) ((rd_T71 x7 x8).f3) ((rd_T71 x7 x8).f4)).bind fun bt441 => (if x8 < (x3.length : Int) then (spec_l9DrawMem.l1 k (x3.set (x8 : Int).toNat bt441.1) x7 (wrap64 (x8 + 1)) x1000 x1001 x1002) else (none))) else (none)) else (some (x3, x1001, x1002))
def spec_l9DrawMem.l2 : Nat → List Int → List (S71) → Int → List Int → Int → Int → Option (List Int × Int × Int)
 | 0, _, _, _, _, _, _ => none
 | k + 1, x3, x9, x10, x1000, x1001, x1002 => if x10 < (x9.length : Int) then (if 0 ≤ x10 then ((spec_Code.f ((rd_T71 x9 x10).f0) ((rd_T71 x9 x10).f1) ((rd_T71 x9 x10).f2) ((rd_T71 x9 x10).f3) ((rd_T71 x9 x10).f4)).bind fun bt448 => (if x10 < (x3.length : Int) then (spec_l9DrawMem.l2 k (x3.set (x10 : Int).toNat bt448.1) x9 (wrap64 (x10 + 1)) x1000 x1001 x1002) else (none))) else (none)) else (some (x3, x1001, x1002))
end
def spec_l9DrawMem.f (k : Nat) (s0_0 : List Int) (s0_1 : Int) (s0_2 : Int) : Option (List Int × Int × Int) := spec_l9DrawMem.l0 k (([] : List Int)) 0 s0_0 s0_1 s0_2
theorem spec_l9DrawMem.mono_l : ∀ k, (∀ y0 y1 y2 y3 y4, LeO (spec_l9DrawMem.l0 k y0 y1 y2 y3 y4) (spec_l9DrawMem.l0 (k + 1) y0 y1 y2 y3 y4)) ∧ (∀ y0 y1 y2 y3 y4 y5, LeO (spec_l9DrawMem.l1 k y0 y1 y2 y3 y4 y5) (spec_l9DrawMem.l1 (k + 1) y0 y1 y2 y3 y4 y5)) ∧ (∀ y0 y1 y2 y3 y4 y5, LeO (spec_l9DrawMem.l2 k y0 y1 y2 y3 y4 y5) (spec_l9DrawMem.l2 (k + 1) y0 y1 y2 y3 y4 y5))
 | 0 => ⟨fun _ _ _ _ _ r h => by simp [spec_l9DrawMem.l0] at h, fun _ _ _ _ _ _ r h => by simp [spec_l9DrawMem.l1] at h, fun _ _ _ _ _ _ r h => by simp [spec_l9DrawMem.l2] at h⟩
 | k + 1 => by
  obtain ⟨ih0, ih1, ih2⟩ := spec_l9DrawMem.mono_l k
  refine ⟨?_, ?_, ?_⟩
  ·intros
   unfold spec_l9DrawMem.l0
   have mo0 := @spec_l8DrawIns.mono
   exact zL
  ·intros
   unfold spec_l9DrawMem.l1
   have mo0 := @spec_l8DrawIns.mono
   exact zL
  ·intros
   unfold spec_l9DrawMem.l2
   have mo0 := @spec_l8DrawIns.mono
   exact zL
theorem spec_l9DrawMem.mono : ∀ a0 a1 a2 k, LeO (spec_l9DrawMem.f k a0 a1 a2) (spec_l9DrawMem.f (k + 1) a0 a1 a2) := by
 intro a0 a1 a2 k
 obtain ⟨ih0, ih1, ih2⟩ := spec_l9DrawMem.mono_l k
 unfold spec_l9DrawMem.f
 have mo0 := @spec_l8DrawIns.mono
 exact zL
theorem spec_l9DrawMem.calls (k : Nat) (g : Nat) (s0_0 : List Int) (s0_1 : Int) (s0_2 : Int) (r1 : List Int) (r2 : Int) (r3 : Int) (w0 w : World) (hI : IsS90 w0 w g s0_0 s0_1 s0_2) (hB : Below w0.heap.size w0 w) (h : spec_l9DrawMem.f k s0_0 s0_1 s0_2 = some (r1, r2, r3)) :
  Calls Try.prog 81 #[.pointer (some ⟨g, 0, none⟩)] w fun e w' => ∃ v0_ : Value, e = .returned (v0_) ∧ Kd.R (Kd.int .i64) 3 w' w.heap.size (fun _ => True) v0_ r1 ∧ IsS90 w0 w' g s0_0 r2 r3 ∧ Below w0.heap.size w0 w' ∧ KeepBut w w' g none := by
 have hu71 := Try.underlying71
 have HI0 := zM hI
 have HK := zM (KeepBut.refl w g none)
 have HL := zM hB.size
 clear hI
 have HW0 := zM hB.size
 have HB := zM hB
 clear hB
 unfold spec_l9DrawMem.f at h
 have H := h
 clear h
 generalize hy398 : ((([] : List Int)) : List Int) = y398 at H
 have Ny398 := zM hy398.symm
 clear hy398
 have H' := zM H
 clear H
 go_enter Try.func81, Try.ntmps81
 go_wp2_with (first | ((with_reducible refine gate_dst (N := 11) rfl ?_); refine Kd.R_lit (Kd.int .i64) _ 3 ?hg (N := 11) ?hd (xs := ([] : List Int)) (inner := []) (ok := fun _ => True) (okp := fun _ => True) ?hr ?hp (fun _ hk => hk) trivial (Below.refl _ _) (Nat.le_refl _) (by simp) ?_; (case hd => rfl); (case hg => rfl); (case hr => exact zHH); (case hp => exact (Reps.none _ _)); intro v399 w2 ho3 hb hg_ hnew_; clear hg_ hnew_; (first | rw [← Ny398.1] at ho3 | (simp only [Int.reduceToNat] at ho3; rw [← Ny398.1] at ho3)); have HO400 := zM (Kd.R_lower ho3 (keep_size (w := w) (g := g) (row := none) zB34)); replace HK := zM (KeepBut.trans zB34 (KeepBut.of_below hb g none) (.inl rfl)); replace HB := zM (below_step zB33 hb); replace HI0 := zM (IsS90.below zB32 hb); clear hb ho3))
 go_loopg [3, 4] k (fun kq v3 v4 w' => ∃ (x3_1 : List Int) (x4_1 : Int) (x1001_1 : Int) (x1002_1 : Int), v4 = .int .i64 x4_1 ∧ Aside0 (spec_l9DrawMem.l0 kq x3_1 x4_1 s0_0 x1001_1 x1002_1 = some (r1, r2, r3)) ∧ Aside0 (kq ≤ k) ∧ Aside0 (Kd.R (Kd.int .i64) 3 w' w.heap.size (fun _ => True) v3 x3_1) ∧ Aside0 (IsS90 w0 w' g s0_0 x1001_1 x1002_1) ∧ Aside0 (KeepBut w w' g none) ∧ Aside0 (Below w0.heap.size w0 w'))
 case atStart => exact ⟨(y398), (0), (s0_1), (s0_2), zJJ, H', ⟨Nat.le_refl _⟩, ⟨zR HO400.1⟩, ⟨zB32⟩, ⟨zB34⟩, ⟨zB33⟩⟩
 case round =>
  clear H'
  obtain ⟨x3_1, x4_1, x1001_1, x1002_1, rfl, HA, HK1, HO_3, HI0, HK, HB⟩ := hrel
  cases gk with
  | zero => exact absurd HA.1 (by simp [spec_l9DrawMem.l0])
  | succ k1 =>
   have H := HA.1
   clear HA
   simp only [spec_l9DrawMem.l0] at H
   by_cases c4 : x4_1 < 24
   ·rw [if_pos c4] at H
    have c4b0 := decide_eq_true c4
    clear c4
    replace H := zO H
    obtain ⟨⟨t401, t402, t403, t404, t405, t406, t407⟩, A5, H⟩ := H
    try dsimp only at H
    replace H := zO H
    obtain ⟨⟨t408, t409⟩, A6, H⟩ := H
    try dsimp only at H
    by_cases c7 : x4_1 > 15
    ·rw [if_pos c7] at H
     have c7b0 := decide_eq_true c7
     clear c7
     generalize hy410 : ((([0, 1, 5, 65535] : List Int)) : List Int) = y410 at H
     have Ny410 := zM hy410.symm
     clear hy410
     replace H := zO H
     obtain ⟨⟨t413, t414, t415⟩, A8, H⟩ := H
     try dsimp only at H
     replace H := zIn H
     obtain ⟨LMc9, H⟩ := H
     generalize hy416 : ((x3_1 ++ [t413]) : List Int) = y416 at H
     have Ny416 := zM hy416.symm
     clear hy416
     have H' := zM H
     clear H
     go_wp2_with (first | ((with_reducible refine zG Try.func92 18 #[.pointer (some ⟨g, 0, none⟩)] ?_); (with_reducible refine (spec_l8DrawIns.calls k1 g s0_0 x1001_1 x1002_1 t401 t402 t403 t404 t405 t406 t407 w0 _ ?side1 ?side2 A5.1).mono ?_); (case side1 => exact zB32); (case side2 => exact zB33); rintro e w10 ⟨rfl, hi, hb, hk⟩; refine ⟨_, rfl, ?_⟩; replace HO_3 := zM (Kd.R_mono (Kd.R_keep (IsS90.apart (show IsS90 w0 _ g s0_0 x1001_1 x1002_1 from zB32) (zR HO_3.1) (by decide)) hk (fun _ h => h.2)) (fun _ h => h.1)); replace HK := zM (KeepBut.trans zB34 hk (.inl rfl)); replace HB := zM hb; replace HI0 := zM hi; clear hb hk hi) | ((with_reducible refine zG Try.func91 19 #[.agg #[.int .i64 t401, .int .i64 t402, .int .i64 t403, .int .i64 t404, .int .i64 t405]] ?_); (with_reducible refine (spec_Code.calls t401 t402 t403 t404 t405 t408 t409 _ A6.1).mono ?_); rintro e w11 ⟨rfl, hb⟩; refine ⟨_, rfl, ?_⟩; replace HO_3 := zM (Kd.R_below (zR HO_3.1) hb); replace HK := zM (KeepBut.trans zB34 (KeepBut.of_below hb g none) (.inl rfl)); replace HB := zM (below_step zB33 hb); replace HI0 := zM (IsS90.below zB32 hb); clear hb) | ((with_reducible refine gate_dst (N := 29) rfl ?_); refine Kd.R_lit (Kd.int .i64) _ 3 ?hg (N := 29) ?hd (xs := ([0, 1, 5, 65535] : List Int)) (inner := [.int .i64 0, .int .i64 1, .int .i64 5, .int .i64 65535]) (ok := fun _ => True) (okp := fun _ => True) ?hr ?hp (fun _ hk => hk) trivial (Below.refl _ _) (Nat.le_refl _) (by simp) ?_; (case hd => rfl); (case hg => rfl); (case hr => exact zHH); (case hp => exact (Reps.one (show Kd.M (Kd.int .i64) _ _ _ 0 [.int .i64 0] from rfl) (Reps.one (show Kd.M (Kd.int .i64) _ _ _ 1 [.int .i64 1] from rfl) (Reps.one (show Kd.M (Kd.int .i64) _ _ _ 5 [.int .i64 5] from rfl) (Reps.one (show Kd.M (Kd.int .i64) _ _ _ 65535 [.int .i64 65535] from rfl) (Reps.none _ _)))))); intro v411 w12 ho13 hb hg_ hnew_; clear hg_ hnew_; (first | rw [← Ny410.1] at ho13 | (simp only [Int.reduceToNat] at ho13; rw [← Ny410.1] at ho13)); have HO412 := zM (Kd.R_lower (Kd.R_new' ho13 (Kd.R_lt (zR HO_3.1))) (keep_size (w := w) (g := g) (row := none) zB34)); replace HO_3 := zM (Kd.R_elder' (zR HO_3.1) (Kd.R_base ho13) hb); replace HK := zM (KeepBut.trans zB34 (KeepBut.of_below hb g none) (.inl rfl)); replace HB := zM (below_step zB33 hb); replace HI0 := zM (IsS90.below zB32 hb); clear hb ho13; obtain ⟨Ao14, co14, eo14⟩ := Kd.R_slice HO412.1; subst eo14) | ((with_reducible refine zG Try.func61 30 #[.pointer (some ⟨g, 0, none⟩), .slice Ao14 y410.length co14] ?_); (with_reducible refine (spec_l1PickInt.calls g s0_0 t406 t407 _ _ y410 t413 t414 t415 w0 _ ?side1 ?side2 ?side3 ?side4 ?side5 A8.1).mono ?_); (case side1 => exact zB32); (case side2 => exact zB33); (case side3 => exact zC (Kd.R_reads' HO412.1).2.2); (case side4 => exact (Kd.R_reads' HO412.1).2.1); (case side5 => exact far_slice (IsS90.own_ne HI0.1 HO412.1 (by decide))); rintro e w15 ⟨rfl, hi, hb, hk⟩; refine ⟨_, rfl, ?_⟩; replace HO_3 := zM (Kd.R_mono (Kd.R_keep (IsS90.apart (show IsS90 w0 _ g s0_0 t406 t407 from zB32) (zR HO_3.1) (by decide)) hk (fun _ h => h.2)) (fun _ h => h.1)); replace HO412 := zM (Kd.R_mono (Kd.R_keep (IsS90.apart (show IsS90 w0 _ g s0_0 t406 t407 from zB32) (zR HO412.1) (by decide)) hk (fun _ h => h.2)) (fun _ h => h.1)); replace HK := zM (KeepBut.trans zB34 hk (.inl rfl)); replace HB := zM hb; replace HI0 := zM hi; clear hb hk hi) | ((with_reducible refine gate_builtin (b := .append) (xs := #[.tmp 31, .tmp 33]) rfl ?_); at_builtin; refine Kd.R_append (Kd.int .i64) w.heap.size rfl (.tmp 31) (.tmp 33) 29 3 (.int .i64 0) 8 rfl Try.underlying29 info3 rfl (by decide) (by omega) u3 x3_1 t413 [.int .i64 t413] (fun k_ => some k_ ≠ (.slice Ao14 y410.length co14 : Value).ownBlock) (fun _ => False) rfl rfl ?aP (fun _ hk => hk.elim) ?aF ?aO (Below.refl _ _) ?aS ?aL ?_; (case aP => exact rfl); (case aF => exact (fun k_ hk => Kd.fresh' (Kd.R_lt (zR HO412.1)) k_ hk)); (case aO => exact (by refine zrR ?_; exact Kd.R_mono HO_3.1 (fun _ hk => hk.2))); (case aS => exact (keep_size (w := w) (g := g) (row := none) zB34)); (case aL => have := LMc9.out; omega); intro v417 w16 ho hb hg hat; rw [← Ny416.1] at ho; replace HO412 := zM (Kd.R_after (ok := (fun _ => True)) (zR HO412.1) hg hat); replace HB := zM (below_weaken zB33 HL.1 hb); replace HI0 := zM (IsS90.grown (show IsS90 w0 _ g s0_0 t414 t415 from zB32) hg (IsS90.own_ne HI0.1 HO_3.1 (by decide))); replace HK := zM (KeepBut.trans zB34 (KeepBut.of_grown hg g) (Kd.R_base2 HO_3.1)); have HO418 := zM ho; clear HO_3; clear ho hb hg hat))
     go_roundg k1
     case measure => have := HK1.1; omega
     case rel => exact ⟨(y416), (wrap64 (x4_1 + 1)), (t414), (t415), zJJ, H', ⟨by have := HK1.1; omega⟩, ⟨by refine zrR ?_; exact Kd.R_mono HO418.1 (fun _ hk => trivial)⟩, ⟨zB32⟩, ⟨zB34⟩, ⟨zB33⟩⟩
    rw [if_neg c7] at H
    have c7b0 := decide_eq_false c7
    clear c7
    replace H := zO H
    obtain ⟨⟨t419, t420, t421⟩, A17, H⟩ := H
    try dsimp only at H
    by_cases c18 : t419 = true
    rotate_left
    ·replace c18 := Bool.eq_false_iff.mpr c18
     subst c18
     rw [if_neg zF] at H
     replace H := zIn H
     obtain ⟨LMc29, H⟩ := H
     generalize hy431 : ((x3_1 ++ [t408]) : List Int) = y431 at H
     have Ny431 := zM hy431.symm
     clear hy431
     have H' := zM H
     clear H
     go_wp2_with (first | ((with_reducible refine zG Try.func92 18 #[.pointer (some ⟨g, 0, none⟩)] ?_); (with_reducible refine (spec_l8DrawIns.calls k1 g s0_0 x1001_1 x1002_1 t401 t402 t403 t404 t405 t406 t407 w0 _ ?side1 ?side2 A5.1).mono ?_); (case side1 => exact zB32); (case side2 => exact zB33); rintro e w30 ⟨rfl, hi, hb, hk⟩; refine ⟨_, rfl, ?_⟩; replace HO_3 := zM (Kd.R_mono (Kd.R_keep (IsS90.apart (show IsS90 w0 _ g s0_0 x1001_1 x1002_1 from zB32) (zR HO_3.1) (by decide)) hk (fun _ h => h.2)) (fun _ h => h.1)); replace HK := zM (KeepBut.trans zB34 hk (.inl rfl)); replace HB := zM hb; replace HI0 := zM hi; clear hb hk hi) | ((with_reducible refine zG Try.func91 19 #[.agg #[.int .i64 t401, .int .i64 t402, .int .i64 t403, .int .i64 t404, .int .i64 t405]] ?_); (with_reducible refine (spec_Code.calls t401 t402 t403 t404 t405 t408 t409 _ A6.1).mono ?_); rintro e w31 ⟨rfl, hb⟩; refine ⟨_, rfl, ?_⟩; replace HO_3 := zM (Kd.R_below (zR HO_3.1) hb); replace HK := zM (KeepBut.trans zB34 (KeepBut.of_below hb g none) (.inl rfl)); replace HB := zM (below_step zB33 hb); replace HI0 := zM (IsS90.below zB32 hb); clear hb) | (go_at_call 58; (with_reducible refine (spec_l1Once.calls g s0_0 t406 t407 9 false t420 t421 w0 _ ?side1 ?side2 A17.1).mono ?_); (case side1 => exact zB32); (case side2 => exact zB33); rintro e w32 ⟨rfl, hi, hb, hk⟩; replace HO_3 := zM (Kd.R_mono (Kd.R_keep (IsS90.apart (show IsS90 w0 _ g s0_0 t406 t407 from zB32) (zR HO_3.1) (by decide)) hk (fun _ h => h.2)) (fun _ h => h.1)); replace HK := zM (KeepBut.trans zB34 hk (.inl rfl)); replace HB := zM hb; replace HI0 := zM hi; clear hb hk hi) | ((with_reducible refine gate_builtin (b := .append) (xs := #[.tmp 31, .tmp 33]) rfl ?_); at_builtin; refine Kd.R_append (Kd.int .i64) w.heap.size rfl (.tmp 31) (.tmp 33) 29 3 (.int .i64 0) 8 rfl Try.underlying29 info3 rfl (by decide) (by omega) u3 x3_1 t408 [.int .i64 t408] (fun _ => True) (fun _ => False) rfl rfl ?aP (fun _ hk => hk.elim) ?aF ?aO (Below.refl _ _) ?aS ?aL ?_; (case aP => exact rfl); (case aF => exact (fun _ _ => trivial)); (case aO => exact (zR HO_3.1)); (case aS => exact (keep_size (w := w) (g := g) (row := none) zB34)); (case aL => have := LMc29.out; omega); intro v432 w33 ho hb hg hat; rw [← Ny431.1] at ho; replace HB := zM (below_weaken zB33 HL.1 hb); replace HI0 := zM (IsS90.grown (show IsS90 w0 _ g s0_0 t420 t421 from zB32) hg (IsS90.own_ne HI0.1 HO_3.1 (by decide))); replace HK := zM (KeepBut.trans zB34 (KeepBut.of_grown hg g) (Kd.R_base2 HO_3.1)); have HO433 := zM ho; clear HO_3; clear ho hb hg hat))
     go_roundg k1
     case measure => have := HK1.1; omega
     case rel => exact ⟨(y431), (wrap64 (x4_1 + 1)), (t420), (t421), zJJ, H', ⟨by have := HK1.1; omega⟩, ⟨zR HO433.1⟩, ⟨zB32⟩, ⟨zB34⟩, ⟨zB33⟩⟩
    subst c18
    rw [if_pos rfl] at H
    generalize hy422 : ((([0, 1, 5, 65535] : List Int)) : List Int) = y422 at H
    have Ny422 := zM hy422.symm
    clear hy422
    replace H := zO H
    obtain ⟨⟨t425, t426, t427⟩, A19, H⟩ := H
    try dsimp only at H
    replace H := zIn H
    obtain ⟨LMc20, H⟩ := H
    generalize hy428 : ((x3_1 ++ [t425]) : List Int) = y428 at H
    have Ny428 := zM hy428.symm
    clear hy428
    have H' := zM H
    clear H
    go_wp2_with (first | ((with_reducible refine zG Try.func92 18 #[.pointer (some ⟨g, 0, none⟩)] ?_); (with_reducible refine (spec_l8DrawIns.calls k1 g s0_0 x1001_1 x1002_1 t401 t402 t403 t404 t405 t406 t407 w0 _ ?side1 ?side2 A5.1).mono ?_); (case side1 => exact zB32); (case side2 => exact zB33); rintro e w21 ⟨rfl, hi, hb, hk⟩; refine ⟨_, rfl, ?_⟩; replace HO_3 := zM (Kd.R_mono (Kd.R_keep (IsS90.apart (show IsS90 w0 _ g s0_0 x1001_1 x1002_1 from zB32) (zR HO_3.1) (by decide)) hk (fun _ h => h.2)) (fun _ h => h.1)); replace HK := zM (KeepBut.trans zB34 hk (.inl rfl)); replace HB := zM hb; replace HI0 := zM hi; clear hb hk hi) | ((with_reducible refine zG Try.func91 19 #[.agg #[.int .i64 t401, .int .i64 t402, .int .i64 t403, .int .i64 t404, .int .i64 t405]] ?_); (with_reducible refine (spec_Code.calls t401 t402 t403 t404 t405 t408 t409 _ A6.1).mono ?_); rintro e w22 ⟨rfl, hb⟩; refine ⟨_, rfl, ?_⟩; replace HO_3 := zM (Kd.R_below (zR HO_3.1) hb); replace HK := zM (KeepBut.trans zB34 (KeepBut.of_below hb g none) (.inl rfl)); replace HB := zM (below_step zB33 hb); replace HI0 := zM (IsS90.below zB32 hb); clear hb) | (go_at_call 58; (with_reducible refine (spec_l1Once.calls g s0_0 t406 t407 9 true t420 t421 w0 _ ?side1 ?side2 A17.1).mono ?_); (case side1 => exact zB32); (case side2 => exact zB33); rintro e w23 ⟨rfl, hi, hb, hk⟩; replace HO_3 := zM (Kd.R_mono (Kd.R_keep (IsS90.apart (show IsS90 w0 _ g s0_0 t406 t407 from zB32) (zR HO_3.1) (by decide)) hk (fun _ h => h.2)) (fun _ h => h.1)); replace HK := zM (KeepBut.trans zB34 hk (.inl rfl)); replace HB := zM hb; replace HI0 := zM hi; clear hb hk hi) | ((with_reducible refine gate_dst (N := 29) rfl ?_); refine Kd.R_lit (Kd.int .i64) _ 3 ?hg (N := 29) ?hd (xs := ([0, 1, 5, 65535] : List Int)) (inner := [.int .i64 0, .int .i64 1, .int .i64 5, .int .i64 65535]) (ok := fun _ => True) (okp := fun _ => True) ?hr ?hp (fun _ hk => hk) trivial (Below.refl _ _) (Nat.le_refl _) (by simp) ?_; (case hd => rfl); (case hg => rfl); (case hr => exact zHH); (case hp => exact (Reps.one (show Kd.M (Kd.int .i64) _ _ _ 0 [.int .i64 0] from rfl) (Reps.one (show Kd.M (Kd.int .i64) _ _ _ 1 [.int .i64 1] from rfl) (Reps.one (show Kd.M (Kd.int .i64) _ _ _ 5 [.int .i64 5] from rfl) (Reps.one (show Kd.M (Kd.int .i64) _ _ _ 65535 [.int .i64 65535] from rfl) (Reps.none _ _)))))); intro v423 w24 ho25 hb hg_ hnew_; clear hg_ hnew_; (first | rw [← Ny422.1] at ho25 | (simp only [Int.reduceToNat] at ho25; rw [← Ny422.1] at ho25)); have HO424 := zM (Kd.R_lower (Kd.R_new' ho25 (Kd.R_lt (zR HO_3.1))) (keep_size (w := w) (g := g) (row := none) zB34)); replace HO_3 := zM (Kd.R_elder' (zR HO_3.1) (Kd.R_base ho25) hb); replace HK := zM (KeepBut.trans zB34 (KeepBut.of_below hb g none) (.inl rfl)); replace HB := zM (below_step zB33 hb); replace HI0 := zM (IsS90.below zB32 hb); clear hb ho25; obtain ⟨Ao26, co26, eo26⟩ := Kd.R_slice HO424.1; subst eo26) | ((with_reducible refine zG Try.func61 30 #[.pointer (some ⟨g, 0, none⟩), .slice Ao26 y422.length co26] ?_); (with_reducible refine (spec_l1PickInt.calls g s0_0 t420 t421 _ _ y422 t425 t426 t427 w0 _ ?side1 ?side2 ?side3 ?side4 ?side5 A19.1).mono ?_); (case side1 => exact zB32); (case side2 => exact zB33); (case side3 => exact zC (Kd.R_reads' HO424.1).2.2); (case side4 => exact (Kd.R_reads' HO424.1).2.1); (case side5 => exact far_slice (IsS90.own_ne HI0.1 HO424.1 (by decide))); rintro e w27 ⟨rfl, hi, hb, hk⟩; refine ⟨_, rfl, ?_⟩; replace HO_3 := zM (Kd.R_mono (Kd.R_keep (IsS90.apart (show IsS90 w0 _ g s0_0 t420 t421 from zB32) (zR HO_3.1) (by decide)) hk (fun _ h => h.2)) (fun _ h => h.1)); replace HO424 := zM (Kd.R_mono (Kd.R_keep (IsS90.apart (show IsS90 w0 _ g s0_0 t420 t421 from zB32) (zR HO424.1) (by decide)) hk (fun _ h => h.2)) (fun _ h => h.1)); replace HK := zM (KeepBut.trans zB34 hk (.inl rfl)); replace HB := zM hb; replace HI0 := zM hi; clear hb hk hi) | ((with_reducible refine gate_builtin (b := .append) (xs := #[.tmp 31, .tmp 33]) rfl ?_); at_builtin; refine Kd.R_append (Kd.int .i64) w.heap.size rfl (.tmp 31) (.tmp 33) 29 3 (.int .i64 0) 8 rfl Try.underlying29 info3 rfl (by decide) (by omega) u3 x3_1 t425 [.int .i64 t425] (fun k_ => some k_ ≠ (.slice Ao26 y422.length co26 : Value).ownBlock) (fun _ => False) rfl rfl ?aP (fun _ hk => hk.elim) ?aF ?aO (Below.refl _ _) ?aS ?aL ?_; (case aP => exact rfl); (case aF => exact (fun k_ hk => Kd.fresh' (Kd.R_lt (zR HO424.1)) k_ hk)); (case aO => exact (by refine zrR ?_; exact Kd.R_mono HO_3.1 (fun _ hk => hk.2))); (case aS => exact (keep_size (w := w) (g := g) (row := none) zB34)); (case aL => have := LMc20.out; omega); intro v429 w28 ho hb hg hat; rw [← Ny428.1] at ho; replace HO424 := zM (Kd.R_after (ok := (fun _ => True)) (zR HO424.1) hg hat); replace HB := zM (below_weaken zB33 HL.1 hb); replace HI0 := zM (IsS90.grown (show IsS90 w0 _ g s0_0 t426 t427 from zB32) hg (IsS90.own_ne HI0.1 HO_3.1 (by decide))); replace HK := zM (KeepBut.trans zB34 (KeepBut.of_grown hg g) (Kd.R_base2 HO_3.1)); have HO430 := zM ho; clear HO_3; clear ho hb hg hat))
    go_roundg k1
    case measure => have := HK1.1; omega
    case rel => exact ⟨(y428), (wrap64 (x4_1 + 1)), (t426), (t427), zJJ, H', ⟨by have := HK1.1; omega⟩, ⟨by refine zrR ?_; exact Kd.R_mono HO430.1 (fun _ hk => trivial)⟩, ⟨zB32⟩, ⟨zB34⟩, ⟨zB33⟩⟩
   rw [if_neg c4] at H
   have c4b0 := decide_eq_false c4
   clear c4
   replace H := zO H
   obtain ⟨⟨t434, t435, t436⟩, A34, H⟩ := H
   try dsimp only at H
   by_cases c35 : t434 = 0
   ·rw [if_pos c35] at H
    have c35b0 : (t434 == 0) = true := beq_iff_eq.mpr c35
    have c35b1 : (t434 != 0) = false := bne_eq_false_iff_eq.mpr c35
    clear c35
    generalize hy437 : ((([(⟨1, 1, 0, 0, 1⟩ : S71), (⟨6, 2, 0, 1, 20⟩ : S71), (⟨10, 3, 2, 1, 0⟩ : S71), (⟨8, 0, 0, 0, 1⟩ : S71)] : List (S71))) : List (S71)) = y437 at H
    have Ny437 := zM hy437.symm
    clear hy437
    have H' := zM H
    clear H
    go_wp2_with (first | ((with_reducible refine zG Try.func42 36 #[.pointer (some ⟨g, 0, none⟩), .int .i64 4] ?_); (with_reducible refine (spec_l1Below.calls g s0_0 x1001_1 x1002_1 4 t434 t435 t436 w0 _ ?side1 ?side2 A34.1).mono ?_); (case side1 => exact zB32); (case side2 => exact zB33); rintro e w36 ⟨rfl, hi, hb, hk⟩; refine ⟨_, rfl, ?_⟩; replace HO_3 := zM (Kd.R_mono (Kd.R_keep (IsS90.apart (show IsS90 w0 _ g s0_0 x1001_1 x1002_1 from zB32) (zR HO_3.1) (by decide)) hk (fun _ h => h.2)) (fun _ h => h.1)); replace HK := zM (KeepBut.trans zB34 hk (.inl rfl)); replace HB := zM hb; replace HI0 := zM hi; clear hb hk hi) | ((with_reducible refine gate_dst (N := 43) rfl ?_); refine Kd.R_lit k71 _ 71 ?hg (N := 43) ?hd (xs := ([(⟨1, 1, 0, 0, 1⟩ : S71), (⟨6, 2, 0, 1, 20⟩ : S71), (⟨10, 3, 2, 1, 0⟩ : S71), (⟨8, 0, 0, 0, 1⟩ : S71)] : List (S71))) (inner := [.int .i64 1, .int .i64 1, .int .i64 0, .int .i64 0, .int .i64 1, .int .i64 6, .int .i64 2, .int .i64 0, .int .i64 1, .int .i64 20, .int .i64 10, .int .i64 3, .int .i64 2, .int .i64 1, .int .i64 0, .int .i64 8, .int .i64 0, .int .i64 0, .int .i64 0, .int .i64 1]) (ok := fun _ => True) (okp := fun _ => True) ?hr ?hp (fun _ hk => hk) trivial (Below.refl _ _) (Nat.le_refl _) (by simp) ?_; (case hd => rfl); (case hg => rfl); (case hr => exact zHH); (case hp => exact (Reps.c5 (show Kd.M k71 _ _ _ (⟨1, 1, 0, 0, 1⟩ : S71) [.int .i64 1, .int .i64 1, .int .i64 0, .int .i64 0, .int .i64 1] from (k71_mkM _ _ _ (⟨1, 1, 0, 0, 1⟩ : S71) )) (Reps.c5 (show Kd.M k71 _ _ _ (⟨6, 2, 0, 1, 20⟩ : S71) [.int .i64 6, .int .i64 2, .int .i64 0, .int .i64 1, .int .i64 20] from (k71_mkM _ _ _ (⟨6, 2, 0, 1, 20⟩ : S71) )) (Reps.c5 (show Kd.M k71 _ _ _ (⟨10, 3, 2, 1, 0⟩ : S71) [.int .i64 10, .int .i64 3, .int .i64 2, .int .i64 1, .int .i64 0] from (k71_mkM _ _ _ (⟨10, 3, 2, 1, 0⟩ : S71) )) (Reps.c5 (show Kd.M k71 _ _ _ (⟨8, 0, 0, 0, 1⟩ : S71) [.int .i64 8, .int .i64 0, .int .i64 0, .int .i64 0, .int .i64 1] from (k71_mkM _ _ _ (⟨8, 0, 0, 0, 1⟩ : S71) )) (Reps.none _ _)))))); intro v438 w37 ho38 hb hg_ hnew_; clear hg_ hnew_; (first | rw [← Ny437.1] at ho38 | (simp only [Int.reduceToNat] at ho38; rw [← Ny437.1] at ho38)); replace HO_3 := zM (Kd.R_below (zR HO_3.1) hb); have HO439 := zM (Kd.R_lower ho38 (keep_size (w := w) (g := g) (row := none) zB34)); replace HK := zM (KeepBut.trans zB34 (KeepBut.of_below hb g none) (.inl rfl)); replace HB := zM (below_step zB33 hb); replace HI0 := zM (IsS90.below zB32 hb); clear hb ho38))
    go_loopg [8] k1 (fun kq v8 w' => ∃ (x3_2 : List Int) (x8_2 : Int), v8 = .int .i64 x8_2 ∧ Aside0 (spec_l9DrawMem.l1 kq x3_2 y437 x8_2 s0_0 t435 t436 = some (r1, r2, r3)) ∧ Aside0 (kq ≤ k1) ∧ Aside0 (Kd.R (Kd.int .i64) 3 w' w.heap.size (fun _ => True) u3 x3_2) ∧ Aside0 (Kd.R k71 71 w' w.heap.size (fun _ => True) v438 y437) ∧ Aside0 (IsS90 w0 w' g s0_0 t435 t436) ∧ Aside0 (KeepBut w w' g none) ∧ Aside0 (Below w0.heap.size w0 w'))
    case atStart => exact ⟨(x3_1), (0), zJJ, H', ⟨Nat.le_refl _⟩, ⟨zR HO_3.1⟩, ⟨zR HO439.1⟩, ⟨zB32⟩, ⟨zB34⟩, ⟨zB33⟩⟩
    case round =>
     clear H'
     obtain ⟨x3_2, x8_2, rfl, HA, HK2, HO_3, HO_7, HI0, HK, HB⟩ := hrel
     cases gk with
     | zero => exact absurd HA.1 (by simp [spec_l9DrawMem.l1])
     | succ k2 =>
      have H := HA.1
      clear HA
      simp only [spec_l9DrawMem.l1] at H
      by_cases c39 : x8_2 < (y437.length : Int)
      rotate_left
      ·rw [if_neg c39] at H
       have c39b0 := decide_eq_false c39
       clear c39
       simp only [Option.some.injEq, Prod.mk.injEq] at H
       obtain ⟨rfl, rfl, rfl⟩ := H
       obtain ⟨Ao48, co48, eo48⟩ := Kd.R_slice HO_7.1
       subst eo48
       go_wp2
       go_ret
       exact ⟨_, zE, zR HO_3.1, zB32, zB33, zB34⟩
      rw [if_pos c39] at H
      have c39b0 := decide_eq_true c39
      clear c39
      replace H := zIt H
      obtain ⟨c40b0, H⟩ := H
      replace H := zO H
      obtain ⟨⟨t441, t442⟩, A41, H⟩ := H
      try dsimp only at H
      replace H := zIt H
      obtain ⟨c42b0, H⟩ := H
      generalize hy443 : ((x3_2.set (x8_2 : Int).toNat t441) : List Int) = y443 at H
      have Ny443 := zM hy443.symm
      clear hy443
      have H' := zM H
      clear H
      obtain ⟨Ao44, co44, eo44⟩ := Kd.R_slice HO_7.1
      subst eo44
      obtain ⟨p440, q440, ad440, e440, hx440_0, hx440_1, hx440_2, hx440_3, hx440_4⟩ := zRd (at_T71 (Kd.R_reads' HO_7.1).2.2 x8_2)
      cases e440
      go_wp2_with (first | ((with_reducible refine zG Try.func91 57 #[.agg #[.int .i64 ((rd_T71 y437 x8_2).f0), .int .i64 ((rd_T71 y437 x8_2).f1), .int .i64 ((rd_T71 y437 x8_2).f2), .int .i64 ((rd_T71 y437 x8_2).f3), .int .i64 ((rd_T71 y437 x8_2).f4)]] ?_); (with_reducible refine (spec_Code.calls ((rd_T71 y437 x8_2).f0) ((rd_T71 y437 x8_2).f1) ((rd_T71 y437 x8_2).f2) ((rd_T71 y437 x8_2).f3) ((rd_T71 y437 x8_2).f4) t441 t442 _ A41.1).mono ?_); rintro e w45 ⟨rfl, hb⟩; refine ⟨_, rfl, ?_⟩; replace HO_3 := zM (Kd.R_below (zR HO_3.1) hb); replace HO_7 := zM (Kd.R_below (zR HO_7.1) hb); replace HK := zM (KeepBut.trans zB34 (KeepBut.of_below hb g none) (.inl rfl)); replace HB := zM (below_step zB33 hb); replace HI0 := zM (IsS90.below zB32 hb); clear hb; have p43 : 0 ≤ (x8_2 : Int) := zA; have q43 : (x8_2 : Int) < ((x3_2.length : Int) : Int) := zA; obtain ⟨go43, co43, eo43, gb43, gl43, cl43, HG43⟩ := Kd.R_form HO_3.1 (by omega); (first | cases eo43 | (injection eo43 with ea_ en_ ec_; (first | subst ea_ | (injection ea_ with ea_; subst ea_)); subst ec_; clear en_)); have GB43 := zM gb43; have GG43 := zM HG43; clear gb43 gl43 HG43; obtain ⟨hx43_0, hf43_0⟩ := Kd.R_celln 0 HO_3.1 (x8_2 : Int) p43 q43; replace p43 := eq_true p43; replace q43 := eq_true q43; obtain ⟨hy46_, hz46_⟩ := Kd.R_celln 0 HO_3.1 (x8_2 : Int) zA zA; have HP46 := Kd.R_putg HO_3.1 (x8_2 : Int) t441) | ((with_reducible refine gate_store (t := 3) (p := 60) rfl ?_); refine store_event (t := 3) (p := 60) (v := ?vo_w47) (w1 := (w45.setCell ⟨go43, (x8_2 : Int).toNat, none⟩ (.int .i64 t441))) ?hg ?ho ?hn ?hr ?_; (case ho => rfl); (case hg => rfl); (case hn => rfl); (case hr => exact zHH); intro w47 hw; have hg : w45.grownBy w47 (some go43) := (by rw [hw]; exact HP46.2); have hp_ : Kd.R (Kd.int .i64) 3 w47 w.heap.size (fun _ => True) (.slice (some ⟨go43, 0, none⟩) x3_2.length co43) y443 := (by rw [hw, Ny443.1]; exact HP46.1); clear HP46; replace HO_7 := zM (Kd.R_over' (v := (.slice (some ⟨go43, 0, none⟩) x3_2.length co43)) (zR HO_7.1) (Kd.R_typed HO_3.1) (by decide) hg); replace HI0 := zM (IsS90.grown zB32 hg (IsS90.own_ne HI0.1 HO_3.1 (by decide))); replace HB := zM ((by rw [hw]; exact below_set (HB.1) (Nat.le_trans HL.1 GB43.1) : Below w0.heap.size w0 w47)); replace HK := zM (KeepBut.trans zB34 (KeepBut.of_grown hg g) (Kd.R_base2 HO_3.1)); replace HO_3 := zM hp_; clear hg hw hp_))
      go_roundg k2
      case measure => have := HK1.1; have := HK2.1; omega
      case rel => exact ⟨(y443), (wrap64 (x8_2 + 1)), zJJ, H', ⟨by have := HK1.1; have := HK2.1; omega⟩, ⟨zR HO_3.1⟩, ⟨zR HO_7.1⟩, ⟨zB32⟩, ⟨zB34⟩, ⟨zB33⟩⟩
   rw [if_neg c35] at H
   have c35b0 : (t434 == 0) = false := beq_eq_false_iff_ne.mpr c35
   have c35b1 : (t434 != 0) = true := bne_iff_ne.mpr c35
   by_cases c49 : t434 = 1
   rotate_left
   ·rw [if_neg c49] at H
    have c49b0 : (t434 == 1) = false := beq_eq_false_iff_ne.mpr c49
    have c49b1 : (t434 != 1) = true := bne_iff_ne.mpr c49
    simp only [Option.some.injEq, Prod.mk.injEq] at H
    obtain ⟨rfl, rfl, rfl⟩ := H
    go_wp2_with (first | ((with_reducible refine zG Try.func42 36 #[.pointer (some ⟨g, 0, none⟩), .int .i64 4] ?_); (with_reducible refine (spec_l1Below.calls g s0_0 x1001_1 x1002_1 4 t434 t435 t436 w0 _ ?side1 ?side2 A34.1).mono ?_); (case side1 => exact zB32); (case side2 => exact zB33); rintro e w63 ⟨rfl, hi, hb, hk⟩; refine ⟨_, rfl, ?_⟩; replace HO_3 := zM (Kd.R_mono (Kd.R_keep (IsS90.apart (show IsS90 w0 _ g s0_0 x1001_1 x1002_1 from zB32) (zR HO_3.1) (by decide)) hk (fun _ h => h.2)) (fun _ h => h.1)); replace HK := zM (KeepBut.trans zB34 hk (.inl rfl)); replace HB := zM hb; replace HI0 := zM hi; clear hb hk hi))
    go_ret
    exact ⟨_, zE, zR HO_3.1, zB32, zB33, zB34⟩
   rw [if_pos c49] at H
   have c49b0 : (t434 == 1) = true := beq_iff_eq.mpr c49
   have c49b1 : (t434 != 1) = false := bne_eq_false_iff_eq.mpr c49
   clear c49
   generalize hy444 : ((([(⟨4, 1, 0, 0, 8⟩ : S71), (⟨3, 1, 1, 0, 1⟩ : S71), (⟨5, 0, 0, 1, 8⟩ : S71), (⟨8, 0, 0, 0, 8⟩ : S71)] : List (S71))) : List (S71)) = y444 at H
   have Ny444 := zM hy444.symm
   clear hy444
   have H' := zM H
   clear H
   go_wp2_with (first | ((with_reducible refine zG Try.func42 36 #[.pointer (some ⟨g, 0, none⟩), .int .i64 4] ?_); (with_reducible refine (spec_l1Below.calls g s0_0 x1001_1 x1002_1 4 t434 t435 t436 w0 _ ?side1 ?side2 A34.1).mono ?_); (case side1 => exact zB32); (case side2 => exact zB33); rintro e w50 ⟨rfl, hi, hb, hk⟩; refine ⟨_, rfl, ?_⟩; replace HO_3 := zM (Kd.R_mono (Kd.R_keep (IsS90.apart (show IsS90 w0 _ g s0_0 x1001_1 x1002_1 from zB32) (zR HO_3.1) (by decide)) hk (fun _ h => h.2)) (fun _ h => h.1)); replace HK := zM (KeepBut.trans zB34 hk (.inl rfl)); replace HB := zM hb; replace HI0 := zM hi; clear hb hk hi) | ((with_reducible refine gate_dst (N := 67) rfl ?_); refine Kd.R_lit k71 _ 71 ?hg (N := 67) ?hd (xs := ([(⟨4, 1, 0, 0, 8⟩ : S71), (⟨3, 1, 1, 0, 1⟩ : S71), (⟨5, 0, 0, 1, 8⟩ : S71), (⟨8, 0, 0, 0, 8⟩ : S71)] : List (S71))) (inner := [.int .i64 4, .int .i64 1, .int .i64 0, .int .i64 0, .int .i64 8, .int .i64 3, .int .i64 1, .int .i64 1, .int .i64 0, .int .i64 1, .int .i64 5, .int .i64 0, .int .i64 0, .int .i64 1, .int .i64 8, .int .i64 8, .int .i64 0, .int .i64 0, .int .i64 0, .int .i64 8]) (ok := fun _ => True) (okp := fun _ => True) ?hr ?hp (fun _ hk => hk) trivial (Below.refl _ _) (Nat.le_refl _) (by simp) ?_; (case hd => rfl); (case hg => rfl); (case hr => exact zHH); (case hp => exact (Reps.c5 (show Kd.M k71 _ _ _ (⟨4, 1, 0, 0, 8⟩ : S71) [.int .i64 4, .int .i64 1, .int .i64 0, .int .i64 0, .int .i64 8] from (k71_mkM _ _ _ (⟨4, 1, 0, 0, 8⟩ : S71) )) (Reps.c5 (show Kd.M k71 _ _ _ (⟨3, 1, 1, 0, 1⟩ : S71) [.int .i64 3, .int .i64 1, .int .i64 1, .int .i64 0, .int .i64 1] from (k71_mkM _ _ _ (⟨3, 1, 1, 0, 1⟩ : S71) )) (Reps.c5 (show Kd.M k71 _ _ _ (⟨5, 0, 0, 1, 8⟩ : S71) [.int .i64 5, .int .i64 0, .int .i64 0, .int .i64 1, .int .i64 8] from (k71_mkM _ _ _ (⟨5, 0, 0, 1, 8⟩ : S71) )) (Reps.c5 (show Kd.M k71 _ _ _ (⟨8, 0, 0, 0, 8⟩ : S71) [.int .i64 8, .int .i64 0, .int .i64 0, .int .i64 0, .int .i64 8] from (k71_mkM _ _ _ (⟨8, 0, 0, 0, 8⟩ : S71) )) (Reps.none _ _)))))); intro v445 w51 ho52 hb hg_ hnew_; clear hg_ hnew_; (first | rw [← Ny444.1] at ho52 | (simp only [Int.reduceToNat] at ho52; rw [← Ny444.1] at ho52)); replace HO_3 := zM (Kd.R_below (zR HO_3.1) hb); have HO446 := zM (Kd.R_lower ho52 (keep_size (w := w) (g := g) (row := none) zB34)); replace HK := zM (KeepBut.trans zB34 (KeepBut.of_below hb g none) (.inl rfl)); replace HB := zM (below_step zB33 hb); replace HI0 := zM (IsS90.below zB32 hb); clear hb ho52))
   go_loopg [10] k1 (fun kq v10 w' => ∃ (x3_2 : List Int) (x10_2 : Int), v10 = .int .i64 x10_2 ∧ Aside0 (spec_l9DrawMem.l2 kq x3_2 y444 x10_2 s0_0 t435 t436 = some (r1, r2, r3)) ∧ Aside0 (kq ≤ k1) ∧ Aside0 (Kd.R (Kd.int .i64) 3 w' w.heap.size (fun _ => True) u3 x3_2) ∧ Aside0 (Kd.R k71 71 w' w.heap.size (fun _ => True) v445 y444) ∧ Aside0 (IsS90 w0 w' g s0_0 t435 t436) ∧ Aside0 (KeepBut w w' g none) ∧ Aside0 (Below w0.heap.size w0 w'))
   case atStart => exact ⟨(x3_1), (0), zJJ, H', ⟨Nat.le_refl _⟩, ⟨zR HO_3.1⟩, ⟨zR HO446.1⟩, ⟨zB32⟩, ⟨zB34⟩, ⟨zB33⟩⟩
   case round =>
    clear H'
    try clear hf4
    try clear hf43
    obtain ⟨x3_2, x10_2, rfl, HA, HK2, HO_3, HO_9, HI0, HK, HB⟩ := hrel
    cases gk with
    | zero => exact absurd HA.1 (by simp [spec_l9DrawMem.l2])
    | succ k2 =>
     have H := HA.1
     clear HA
     simp only [spec_l9DrawMem.l2] at H
     by_cases c53 : x10_2 < (y444.length : Int)
     rotate_left
     ·rw [if_neg c53] at H
      have c53b0 := decide_eq_false c53
      clear c53
      simp only [Option.some.injEq, Prod.mk.injEq] at H
      obtain ⟨rfl, rfl, rfl⟩ := H
      obtain ⟨Ao62, co62, eo62⟩ := Kd.R_slice HO_9.1
      subst eo62
      go_wp2
      go_ret
      exact ⟨_, zE, zR HO_3.1, zB32, zB33, zB34⟩
     rw [if_pos c53] at H
     have c53b0 := decide_eq_true c53
     clear c53
     replace H := zIt H
     obtain ⟨c54b0, H⟩ := H
     replace H := zO H
     obtain ⟨⟨t448, t449⟩, A55, H⟩ := H
     try dsimp only at H
     replace H := zIt H
     obtain ⟨c56b0, H⟩ := H
     generalize hy450 : ((x3_2.set (x10_2 : Int).toNat t448) : List Int) = y450 at H
     have Ny450 := zM hy450.symm
     clear hy450
     have H' := zM H
     clear H
     obtain ⟨Ao58, co58, eo58⟩ := Kd.R_slice HO_9.1
     subst eo58
     obtain ⟨p447, q447, ad447, e447, hx447_0, hx447_1, hx447_2, hx447_3, hx447_4⟩ := zRd (at_T71 (Kd.R_reads' HO_9.1).2.2 x10_2)
     cases e447
     go_wp2_with (first | ((with_reducible refine zG Try.func91 81 #[.agg #[.int .i64 ((rd_T71 y444 x10_2).f0), .int .i64 ((rd_T71 y444 x10_2).f1), .int .i64 ((rd_T71 y444 x10_2).f2), .int .i64 ((rd_T71 y444 x10_2).f3), .int .i64 ((rd_T71 y444 x10_2).f4)]] ?_); (with_reducible refine (spec_Code.calls ((rd_T71 y444 x10_2).f0) ((rd_T71 y444 x10_2).f1) ((rd_T71 y444 x10_2).f2) ((rd_T71 y444 x10_2).f3) ((rd_T71 y444 x10_2).f4) t448 t449 _ A55.1).mono ?_); rintro e w59 ⟨rfl, hb⟩; refine ⟨_, rfl, ?_⟩; replace HO_3 := zM (Kd.R_below (zR HO_3.1) hb); replace HO_9 := zM (Kd.R_below (zR HO_9.1) hb); replace HK := zM (KeepBut.trans zB34 (KeepBut.of_below hb g none) (.inl rfl)); replace HB := zM (below_step zB33 hb); replace HI0 := zM (IsS90.below zB32 hb); clear hb; have p57 : 0 ≤ (x10_2 : Int) := zA; have q57 : (x10_2 : Int) < ((x3_2.length : Int) : Int) := zA; obtain ⟨go57, co57, eo57, gb57, gl57, cl57, HG57⟩ := Kd.R_form HO_3.1 (by omega); (first | cases eo57 | (injection eo57 with ea_ en_ ec_; (first | subst ea_ | (injection ea_ with ea_; subst ea_)); subst ec_; clear en_)); have GB57 := zM gb57; have GG57 := zM HG57; clear gb57 gl57 HG57; obtain ⟨hx57_0, hf57_0⟩ := Kd.R_celln 0 HO_3.1 (x10_2 : Int) p57 q57; replace p57 := eq_true p57; replace q57 := eq_true q57; obtain ⟨hy60_, hz60_⟩ := Kd.R_celln 0 HO_3.1 (x10_2 : Int) zA zA; have HP60 := Kd.R_putg HO_3.1 (x10_2 : Int) t448) | ((with_reducible refine gate_store (t := 3) (p := 84) rfl ?_); refine store_event (t := 3) (p := 84) (v := ?vo_w61) (w1 := (w59.setCell ⟨go57, (x10_2 : Int).toNat, none⟩ (.int .i64 t448))) ?hg ?ho ?hn ?hr ?_; (case ho => rfl); (case hg => rfl); (case hn => rfl); (case hr => exact zHH); intro w61 hw; have hg : w59.grownBy w61 (some go57) := (by rw [hw]; exact HP60.2); have hp_ : Kd.R (Kd.int .i64) 3 w61 w.heap.size (fun _ => True) (.slice (some ⟨go57, 0, none⟩) x3_2.length co57) y450 := (by rw [hw, Ny450.1]; exact HP60.1); clear HP60; replace HO_9 := zM (Kd.R_over' (v := (.slice (some ⟨go57, 0, none⟩) x3_2.length co57)) (zR HO_9.1) (Kd.R_typed HO_3.1) (by decide) hg); replace HI0 := zM (IsS90.grown zB32 hg (IsS90.own_ne HI0.1 HO_3.1 (by decide))); replace HB := zM ((by rw [hw]; exact below_set (HB.1) (Nat.le_trans HL.1 GB57.1) : Below w0.heap.size w0 w61)); replace HK := zM (KeepBut.trans zB34 (KeepBut.of_grown hg g) (Kd.R_base2 HO_3.1)); replace HO_3 := zM hp_; clear hg hw hp_))
     go_roundg k2
     case measure => have := HK1.1; have := HK2.1; omega
     case rel => exact ⟨(y450), (wrap64 (x10_2 + 1)), zJJ, H', ⟨by have := HK1.1; have := HK2.1; omega⟩, ⟨zR HO_3.1⟩, ⟨zR HO_9.1⟩, ⟨zB32⟩, ⟨zB34⟩, ⟨zB33⟩⟩

end Go.Proofs.Ytgbjengnkbomoaa.PFnRaces
