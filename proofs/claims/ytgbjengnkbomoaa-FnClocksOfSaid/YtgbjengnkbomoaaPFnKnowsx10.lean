-- made by wip/tools/myprint.py out of the seat's translation
import Derived.Test.YtgbjengnkbomoaaPFnKnowsx0
import Derived.Test.YtgbjengnkbomoaaPFnKnowsx5
import Derived.Test.YtgbjengnkbomoaaPFnKnowsx9
namespace Go.Proofs.Ytgbjengnkbomoaa.PFnKnows
open Go.RowKit Go.Proofs.YtgbjengnkbomoaaW.PrintWords Go.Proofs.YtgbjengnkbomoaaW.PrintLast Go.Proofs.YtgbjengnkbomoaaW.PrintMore
attribute [local go_sem] max2_int min2_int max_two min_two max_three min_three max_four min_four   -- for this text's walks alone
set_option linter.unusedVariables false
set_option linter.unusedSimpArgs false
set_option maxHeartbeats 8000000
set_option maxRecDepth 100000

/-! ### spec_l8DrawIns: function 92 -/
mutual
def spec_l8DrawIns.j0 : Nat → Int → List Int → Int → Int → Int → Int → Int → Int → Int → Option (Int × Int × Int × Int × Int × Int × Int)
 | 0, _, _, _, _, _, _, _, _, _ => none
 | k + 1, x4, x1000, x1001, x1002, x447000, x447001, x447002, x447003, x447004 => if (Go.bits .and .i64 x4 2) = 0 then (spec_l8DrawIns.j1 k x4 x1000 x1001 x1002 x447000 x447001 x447002 x447003 x447004) else ((spec_l1Below.f x1000 x1001 x1002 4).bind fun bt451 => (spec_l8DrawIns.j1 k x4 x1000 bt451.2.1 bt451.2.2 x447000 x447001 bt451.1 x447003 x447004))
def spec_l8DrawIns.j1 : Nat → Int → List Int → Int → Int → Int → Int → Int → Int → Int → Option (Int × Int × Int × Int × Int × Int × Int)
 | 0, _, _, _, _, _, _, _, _, _ => none
 | k + 1, x4, x1000, x1001, x1002, x447000, x447001, x447002, x447003, x447004 => if (Go.bits .and .i64 x4 4) = 0 then (if (Go.bits .and .i64 x4 8) = 0 then (some (x447000, x447001, x447002, x447003, x447004, x1001, x1002)) else ((spec_l1PickInt.f x1000 x1001 x1002 (([0, 1, 2, 4, 8, 9, 12, 20, 23] : List Int))).bind fun bt457 => (some (x447000, x447001, x447002, x447003, bt457.1, bt457.2.1, bt457.2.2)))) else ((spec_l1Below.f x1000 x1001 x1002 4).bind fun bt460 => (if (Go.bits .and .i64 x4 8) = 0 then (some (x447000, x447001, x447002, bt460.1, x447004, bt460.2.1, bt460.2.2)) else ((spec_l1PickInt.f x1000 bt460.2.1 bt460.2.2 (([0, 1, 2, 4, 8, 9, 12, 20, 23] : List Int))).bind fun bt466 => (some (x447000, x447001, x447002, bt460.1, bt466.1, bt466.2.1, bt466.2.2)))))
end
def spec_l8DrawIns.f (k : Nat) (s0_0 : List Int) (s0_1 : Int) (s0_2 : Int) : Option (Int × Int × Int × Int × Int × Int × Int) := (spec_l1PickInt.f s0_0 s0_1 s0_2 (([1, 1, 2, 3, 3, 4, 4, 5, 5, 5, 6, 6, 7, 8, 9, 10] : List Int))).bind fun bt443 => ((spec_l8Has.f bt443.1).bind fun t447 => (if (Go.bits .and .i64 t447 1) = 0 then (spec_l8DrawIns.j0 k t447 s0_0 bt443.2.1 bt443.2.2 bt443.1 0 0 0 0) else ((spec_l1Below.f s0_0 bt443.2.1 bt443.2.2 4).bind fun bt448 => (spec_l8DrawIns.j0 k t447 s0_0 bt448.2.1 bt448.2.2 bt443.1 bt448.1 0 0 0))))
theorem spec_l8DrawIns.mono_l : ∀ k, (∀ y0 y1 y2 y3 y4 y5 y6 y7 y8, LeO (spec_l8DrawIns.j0 k y0 y1 y2 y3 y4 y5 y6 y7 y8) (spec_l8DrawIns.j0 (k + 1) y0 y1 y2 y3 y4 y5 y6 y7 y8)) ∧ (∀ y0 y1 y2 y3 y4 y5 y6 y7 y8, LeO (spec_l8DrawIns.j1 k y0 y1 y2 y3 y4 y5 y6 y7 y8) (spec_l8DrawIns.j1 (k + 1) y0 y1 y2 y3 y4 y5 y6 y7 y8))
 | 0 => ⟨fun _ _ _ _ _ _ _ _ _ r h => by simp [spec_l8DrawIns.j0] at h, fun _ _ _ _ _ _ _ _ _ r h => by simp [spec_l8DrawIns.j1] at h⟩
 | k + 1 => by
  obtain ⟨ih0, ih1⟩ := spec_l8DrawIns.mono_l k
  refine ⟨?_, ?_⟩
  ·intros
   unfold spec_l8DrawIns.j0
   exact zL
  ·intros
   unfold spec_l8DrawIns.j1
   exact zL
theorem spec_l8DrawIns.mono : ∀ a0 a1 a2 k, LeO (spec_l8DrawIns.f k a0 a1 a2) (spec_l8DrawIns.f (k + 1) a0 a1 a2) := by
 intro a0 a1 a2 k
 obtain ⟨ih0, ih1⟩ := spec_l8DrawIns.mono_l k
 unfold spec_l8DrawIns.f
 exact zL
theorem spec_l8DrawIns.calls (k : Nat) (g : Nat) (s0_0 : List Int) (s0_1 : Int) (s0_2 : Int) (r1 : Int) (r2 : Int) (r3 : Int) (r4 : Int) (r5 : Int) (r6 : Int) (r7 : Int) (w0 w : World) (hI : IsS90 w0 w g s0_0 s0_1 s0_2) (hB : Below w0.heap.size w0 w) (h : spec_l8DrawIns.f k s0_0 s0_1 s0_2 = some (r1, r2, r3, r4, r5, r6, r7)) :
  Calls Try.prog 92 #[.pointer (some ⟨g, 0, none⟩)] w fun e w' => e = .returned (.agg #[.int .i64 r1, .int .i64 r2, .int .i64 r3, .int .i64 r4, .int .i64 r5]) ∧ IsS90 w0 w' g s0_0 r6 r7 ∧ Below w0.heap.size w0 w' ∧ KeepBut w w' g none := by
 have hu71 := Try.underlying71
 have HI0 := zM hI
 have HK := zM (KeepBut.refl w g none)
 clear hI
 have HW0 := zM hB.size
 have HB := zM hB
 clear hB
 unfold spec_l8DrawIns.f at h
 have H := h
 clear h
 obtain ⟨y440, hy440⟩ : ∃ y_ : List Int, y_ = (([1, 1, 2, 3, 3, 4, 4, 5, 5, 5, 6, 6, 7, 8, 9, 10] : List Int)) := ⟨_, rfl⟩
 replace H : ((spec_l1PickInt.f s0_0 s0_1 s0_2 y440).bind fun bt443 => ((spec_l8Has.f bt443.1).bind fun t447 => (if (Go.bits .and .i64 t447 1) = 0 then (spec_l8DrawIns.j0 k t447 s0_0 bt443.2.1 bt443.2.2 bt443.1 0 0 0 0) else ((spec_l1Below.f s0_0 bt443.2.1 bt443.2.2 4).bind fun bt448 => (spec_l8DrawIns.j0 k t447 s0_0 bt448.2.1 bt448.2.2 bt443.1 bt448.1 0 0 0))))) = some (r1, r2, r3, r4, r5, r6, r7) := by first | (rw [hy440]; with_reducible exact H) | (have H2_ := (Option.bind_some _ _).symm.trans H; rw [hy440]; with_reducible exact H2_) | (have H2_ := (Option.bind_some _ _).symm.trans H; with_reducible exact H2_) | with_reducible exact H | (rw [hy440]; exact H) | exact H
 have Ny440 := zM hy440
 clear hy440
 replace H := zO H
 obtain ⟨⟨t443, t444, t445⟩, A2, H⟩ := H
 try dsimp only at H
 replace H := zO H
 obtain ⟨t447, A3, H⟩ := H
 have HC4 := zM H
 clear H
 go_enter Try.func92, Try.ntmps92
 go_upto_if 14 with (first | ((with_reducible refine zBx 2 71 #[.int .i64 0, .int .i64 0, .int .i64 0, .int .i64 0, .int .i64 0] ?_); intro gb439 hg w5 hbox hb; replace HB := zM (below_step zB36 hb); have BK439 := zM hbox; have GW439 := zM ((by rw [hg]; exact (keep_size (w := w) (g := g) (row := none) zB37) : w.heap.size ≤ gb439)); have GE439 := zM ((Nat.le_trans HW0.1 (by rw [hg]; exact (keep_size (w := w) (g := g) (row := none) zB37) : w.heap.size ≤ gb439) : w0.heap.size ≤ gb439)); replace HK := zM (KeepBut.trans zB37 (KeepBut.of_below hb g none) (.inl rfl)); have NB0_439 := zM ((by rw [hg]; exact Nat.ne_of_lt (IsS90.lt (show IsS90 w0 _ g s0_0 s0_1 s0_2 from zB35)) : g ≠ gb439)); have NB439_0 := zM ((by rw [hg]; exact Nat.ne_of_gt (IsS90.lt (show IsS90 w0 _ g s0_0 s0_1 s0_2 from zB35)) : gb439 ≠ g)); replace HI0 := zM (IsS90.below zB35 hb); clear hb hbox hg) | ((with_reducible refine gate_dst (N := 6) rfl ?_); refine Kd.R_lit (Kd.int .i64) _ 3 ?hg (N := 6) ?hd (xs := ([1, 1, 2, 3, 3, 4, 4, 5, 5, 5, 6, 6, 7, 8, 9, 10] : List Int)) (inner := [.int .i64 1, .int .i64 1, .int .i64 2, .int .i64 3, .int .i64 3, .int .i64 4, .int .i64 4, .int .i64 5, .int .i64 5, .int .i64 5, .int .i64 6, .int .i64 6, .int .i64 7, .int .i64 8, .int .i64 9, .int .i64 10]) (ok := fun _ => True) (okp := fun _ => True) ?hr ?hp (fun _ hk => hk) trivial (Below.refl _ _) (Nat.le_refl _) (by simp) ?_; (case hd => rfl); (case hg => rfl); (case hr => exact zHH); (case hp => exact (Reps.one (show Kd.M (Kd.int .i64) _ _ _ 1 [.int .i64 1] from rfl) (Reps.one (show Kd.M (Kd.int .i64) _ _ _ 1 [.int .i64 1] from rfl) (Reps.one (show Kd.M (Kd.int .i64) _ _ _ 2 [.int .i64 2] from rfl) (Reps.one (show Kd.M (Kd.int .i64) _ _ _ 3 [.int .i64 3] from rfl) (Reps.one (show Kd.M (Kd.int .i64) _ _ _ 3 [.int .i64 3] from rfl) (Reps.one (show Kd.M (Kd.int .i64) _ _ _ 4 [.int .i64 4] from rfl) (Reps.one (show Kd.M (Kd.int .i64) _ _ _ 4 [.int .i64 4] from rfl) (Reps.one (show Kd.M (Kd.int .i64) _ _ _ 5 [.int .i64 5] from rfl) (Reps.one (show Kd.M (Kd.int .i64) _ _ _ 5 [.int .i64 5] from rfl) (Reps.one (show Kd.M (Kd.int .i64) _ _ _ 5 [.int .i64 5] from rfl) (Reps.one (show Kd.M (Kd.int .i64) _ _ _ 6 [.int .i64 6] from rfl) (Reps.one (show Kd.M (Kd.int .i64) _ _ _ 6 [.int .i64 6] from rfl) (Reps.one (show Kd.M (Kd.int .i64) _ _ _ 7 [.int .i64 7] from rfl) (Reps.one (show Kd.M (Kd.int .i64) _ _ _ 8 [.int .i64 8] from rfl) (Reps.one (show Kd.M (Kd.int .i64) _ _ _ 9 [.int .i64 9] from rfl) (Reps.one (show Kd.M (Kd.int .i64) _ _ _ 10 [.int .i64 10] from rfl) (Reps.none _ _)))))))))))))))))); intro v441 w6 ho7 hb hg_ hnew_; clear hg_ hnew_; (first | rw [← Ny440.1] at ho7 | (simp only [Int.reduceToNat] at ho7; rw [← Ny440.1] at ho7)); have HO442 := zM (Kd.R_lower ho7 (keep_size (w := w) (g := g) (row := none) zB37)); replace BK439 := zM (zb BK439.1 hb); replace HK := zM (KeepBut.trans zB37 (KeepBut.of_below hb g none) (.inl rfl)); replace HB := zM (below_step zB36 hb); replace HI0 := zM (IsS90.below zB40 hb); clear hb ho7; obtain ⟨Ao8, co8, eo8⟩ := Kd.R_slice HO442.1; subst eo8) | ((with_reducible refine zG Try.func61 7 #[.pointer (some ⟨g, 0, none⟩), .slice Ao8 y440.length co8] ?_); (with_reducible refine (spec_l1PickInt.calls g s0_0 s0_1 s0_2 _ _ y440 t443 t444 t445 w0 _ ?side1 ?side2 ?side3 ?side4 ?side5 A2.1).mono ?_); (case side1 => exact zB40); (case side2 => exact zB36); (case side3 => exact zC (Kd.R_reads' HO442.1).2.2); (case side4 => exact (Kd.R_reads' HO442.1).2.1); (case side5 => exact far_slice (IsS90.own_ne HI0.1 HO442.1 (by decide))); rintro e w9 ⟨rfl, hi, hb, hk⟩; refine ⟨_, rfl, ?_⟩; replace BK439 := zM (zh hk BK439.1 NB439_0.1); replace HK := zM (KeepBut.trans zB37 hk (.inl rfl)); replace HB := zM hb; replace HI0 := zM hi; clear hb hk hi) | ((with_reducible refine zBx 3 71 #[.int .i64 0, .int .i64 0, .int .i64 0, .int .i64 0, .int .i64 0] ?_); intro gb446 hg w10 hbox hb; replace HB := zM (below_step zB36 hb); have BK446 := zM hbox; have GW446 := zM ((by rw [hg]; exact (keep_size (w := w) (g := g) (row := none) zB37) : w.heap.size ≤ gb446)); have GE446 := zM ((Nat.le_trans HW0.1 (by rw [hg]; exact (keep_size (w := w) (g := g) (row := none) zB37) : w.heap.size ≤ gb446) : w0.heap.size ≤ gb446)); replace HK := zM (KeepBut.trans zB37 (KeepBut.of_below hb g none) (.inl rfl)); have NB439_446 := zM ((zn BK439.1 hg : gb439 ≠ gb446)); replace BK439 := zM (zb BK439.1 hb); have NB0_446 := zM ((by rw [hg]; exact Nat.ne_of_lt (IsS90.lt (show IsS90 w0 _ g s0_0 t444 t445 from zB40)) : g ≠ gb446)); have NB446_0 := zM ((by rw [hg]; exact Nat.ne_of_gt (IsS90.lt (show IsS90 w0 _ g s0_0 t444 t445 from zB40)) : gb446 ≠ g)); replace HI0 := zM (IsS90.below zB40 hb); clear hb hbox hg; have hcz13 := zc_5 (w := w10) BK446.1) | ((with_reducible refine zG Try.func95 11 #[.int .i64 t443] ?_); (with_reducible refine (spec_l8Has.calls t443 t447 _ A3.1).mono ?_); rintro e w14 ⟨rfl, hb⟩; refine ⟨_, rfl, ?_⟩; replace BK439 := zM (zf BK439.1 hb); replace BK446 := zM (blk_below (g := gb446) (o := .cells #[.int .i64 t443, .int .i64 0, .int .i64 0, .int .i64 0, .int .i64 0] 71 (0, 0)) (by exact zp5 (zK BK446.1)) hb); replace HK := zM (KeepBut.trans zB37 (KeepBut.of_below hb g none) (.inl rfl)); replace HB := zM (below_step zB36 hb); replace HI0 := zM (IsS90.below (show IsS90 w0 (((((w10.setCell ⟨gb446, 0, none⟩ (.int .i64 t443)).setCell ⟨gb446, 1, none⟩ (.int .i64 0)).setCell ⟨gb446, 2, none⟩ (.int .i64 0)).setCell ⟨gb446, 3, none⟩ (.int .i64 0)).setCell ⟨gb446, 4, none⟩ (.int .i64 0)) g s0_0 t444 t445 from zB42) hb); clear hb))
 (try simp only [Act.put, List.setIfInBounds_toArray, List.set_cons_zero, List.set_cons_succ])
 go_cut [] (fun wc => ∃ (kq : Nat) (x1001_3 : Int) (x1002_3 : Int) (x447001_3 : Int), Aside0 (spec_l8DrawIns.j0 kq t447 s0_0 x1001_3 x1002_3 t443 x447001_3 0 0 0 = some (r1, r2, r3, r4, r5, r6, r7)) ∧ Aside0 (kq ≤ k) ∧ Aside0 (wc.heap[gb439]? = some (.cells #[.int .i64 0, .int .i64 0, .int .i64 0, .int .i64 0, .int .i64 0] 71 (0, 0))) ∧ Aside0 (wc.heap[gb446]? = some (.cells #[.int .i64 t443, .int .i64 x447001_3, .int .i64 0, .int .i64 0, .int .i64 0] 71 (0, 0))) ∧ Aside0 (IsS90 w0 wc g s0_0 x1001_3 x1002_3) ∧ Aside0 (KeepBut w wc g none) ∧ Aside0 (Below w0.heap.size w0 wc))
 case first =>
  have H := HC4.1
  clear HC4
  by_cases c15 : (Go.bits .and .i64 t447 1) = 0
  ·rw [if_pos c15] at H
   have c15b0 : ((Go.bits .and .i64 t447 1) == 0) = true := beq_iff_eq.mpr c15
   clear c15
   (first | rw [c15b0] | (simp only [i64_w, i32_w]; rw [c15b0]) | skip)
   have H' := zM H
   clear H
   go_wp2
   go_meet
   case rel => exact ⟨_, (t444), (t445), (0), H', ⟨by first | omega | exact Nat.le_refl _⟩, ⟨zK BK439.1⟩, ⟨zK BK446.1⟩, ⟨zB42⟩, ⟨zB37⟩, ⟨zB36⟩⟩
  rw [if_neg c15] at H
  have c15b0 : ((Go.bits .and .i64 t447 1) == 0) = false := beq_eq_false_iff_ne.mpr c15
  have c15b1 : ((Go.bits .and .i64 t447 1) != 0) = true := bne_iff_ne.mpr c15
  (first | rw [c15b0] | (simp only [i64_w, i32_w]; rw [c15b0]) | skip)
  replace H := zO H
  obtain ⟨⟨t448, t449, t450⟩, A16, H⟩ := H
  try dsimp only at H
  have H' := zM H
  clear H
  go_wp2_with (first | ((with_reducible refine zG Try.func42 16 #[.pointer (some ⟨g, 0, none⟩), .int .i64 4] ?_); (with_reducible refine (spec_l1Below.calls g s0_0 t444 t445 4 t448 t449 t450 w0 _ ?side1 ?side2 A16.1).mono ?_); (case side1 => exact zB42); (case side2 => exact zB36); rintro e w17 ⟨rfl, hi, hb, hk⟩; refine ⟨_, rfl, ?_⟩; replace BK439 := zM (zh hk BK439.1 NB439_0.1); replace BK446 := zM (zh hk BK446.1 NB446_0.1); replace HK := zM (KeepBut.trans zB37 hk (.inl rfl)); replace HB := zM hb; replace HI0 := zM hi; clear hb hk hi; have hcz20 := zc_5 (w := w17) BK446.1))
  go_meet
  case rel => exact ⟨_, (t449), (t450), (t448), H', ⟨by first | omega | exact Nat.le_refl _⟩, ⟨by refine zP ?_; refine blk_far ?_ NB439_446.1 _; refine zP ?_; exact BK439.1⟩, ⟨by refine zP ?_; refine blk_put (cs := #[.int .i64 t443, .int .i64 0, .int .i64 0, .int .i64 0, .int .i64 0]) ?_ 1 _ rfl; refine zP ?_; exact BK446.1⟩, ⟨zB42⟩, ⟨zB37⟩, ⟨zB36⟩⟩
 case rest =>
  clear HC4
  try clear c1
  try clear p2
  try clear c4
  try clear c6
  try clear c9
  try clear c11
  try clear c12
  try clear c15
  try clear c15b0
  try clear c15b1
  try clear c18
  try clear c19
  try clear hcz13
  try clear hcz20
  obtain ⟨kq, x1001_3, x1002_3, x447001_3, HA, HJ3, BK439, BK446, HI0, HK, HB⟩ := hcut
  cases kq with
  | zero => exact absurd HA.1 (by simp [spec_l8DrawIns.j0])
  | succ kj3 =>
   have H := HA.1
   clear HA
   simp only [spec_l8DrawIns.j0] at H
   have HC21 := zM H
   clear H
   go_upto_if 20 with (fail)
   go_cut [] (fun wc => ∃ (kq : Nat) (x1001_20 : Int) (x1002_20 : Int) (x447002_20 : Int), Aside0 (spec_l8DrawIns.j1 kq t447 s0_0 x1001_20 x1002_20 t443 x447001_3 x447002_20 0 0 = some (r1, r2, r3, r4, r5, r6, r7)) ∧ Aside0 (kq ≤ kj3) ∧ Aside0 (wc.heap[gb439]? = some (.cells #[.int .i64 0, .int .i64 0, .int .i64 0, .int .i64 0, .int .i64 0] 71 (0, 0))) ∧ Aside0 (wc.heap[gb446]? = some (.cells #[.int .i64 t443, .int .i64 x447001_3, .int .i64 x447002_20, .int .i64 0, .int .i64 0] 71 (0, 0))) ∧ Aside0 (IsS90 w0 wc g s0_0 x1001_20 x1002_20) ∧ Aside0 (KeepBut w wc g none) ∧ Aside0 (Below w0.heap.size w0 wc))
   case first =>
    have H := HC21.1
    clear HC21
    by_cases c22 : (Go.bits .and .i64 t447 2) = 0
    ·rw [if_pos c22] at H
     have c22b0 : ((Go.bits .and .i64 t447 2) == 0) = true := beq_iff_eq.mpr c22
     clear c22
     (first | rw [c22b0] | (simp only [i64_w, i32_w]; rw [c22b0]) | skip)
     have H' := zM H
     clear H
     go_wp2
     go_meet
     case rel => exact ⟨_, (x1001_3), (x1002_3), (0), H', ⟨by have := HJ3.1; first | omega | exact Nat.le_refl _⟩, ⟨zK BK439.1⟩, ⟨zK BK446.1⟩, ⟨zB42⟩, ⟨zB37⟩, ⟨zB36⟩⟩
    rw [if_neg c22] at H
    have c22b0 : ((Go.bits .and .i64 t447 2) == 0) = false := beq_eq_false_iff_ne.mpr c22
    have c22b1 : ((Go.bits .and .i64 t447 2) != 0) = true := bne_iff_ne.mpr c22
    (first | rw [c22b0] | (simp only [i64_w, i32_w]; rw [c22b0]) | skip)
    replace H := zO H
    obtain ⟨⟨t451, t452, t453⟩, A23, H⟩ := H
    try dsimp only at H
    have H' := zM H
    clear H
    go_wp2_with (first | ((with_reducible refine zG Try.func42 22 #[.pointer (some ⟨g, 0, none⟩), .int .i64 4] ?_); (with_reducible refine (spec_l1Below.calls g s0_0 x1001_3 x1002_3 4 t451 t452 t453 w0 _ ?side1 ?side2 A23.1).mono ?_); (case side1 => exact zB42); (case side2 => exact zB36); rintro e w24 ⟨rfl, hi, hb, hk⟩; refine ⟨_, rfl, ?_⟩; replace BK439 := zM (zh hk BK439.1 NB439_0.1); replace BK446 := zM (zh hk BK446.1 NB446_0.1); replace HK := zM (KeepBut.trans zB37 hk (.inl rfl)); replace HB := zM hb; replace HI0 := zM hi; clear hb hk hi; have hcz27 := zc_5 (w := w24) BK446.1))
    go_meet
    case rel => exact ⟨_, (t452), (t453), (t451), H', ⟨by have := HJ3.1; first | omega | exact Nat.le_refl _⟩, ⟨by refine zP ?_; refine blk_far ?_ NB439_446.1 _; refine zP ?_; exact BK439.1⟩, ⟨by refine zP ?_; refine blk_put (cs := #[.int .i64 t443, .int .i64 x447001_3, .int .i64 0, .int .i64 0, .int .i64 0]) ?_ 2 _ rfl; refine zP ?_; exact BK446.1⟩, ⟨zB42⟩, ⟨zB37⟩, ⟨zB36⟩⟩
   case rest =>
    clear HC21
    try clear c1
    try clear c2
    try clear p2
    try clear c4
    try clear c6
    try clear c9
    try clear c11
    try clear c12
    try clear c15
    try clear c15b0
    try clear c15b1
    try clear c18
    try clear c19
    try clear c22
    try clear c22b0
    try clear c22b1
    try clear c25
    try clear c26
    try clear hcz13
    try clear hcz20
    try clear hcz27
    try clear p2
    obtain ⟨kq, x1001_20, x1002_20, x447002_20, HA, HJ20, BK439, BK446, HI0, HK, HB⟩ := hcut
    cases kq with
    | zero => exact absurd HA.1 (by simp [spec_l8DrawIns.j1])
    | succ kj20 =>
     have H := HA.1
     clear HA
     simp only [spec_l8DrawIns.j1] at H
     by_cases c28 : (Go.bits .and .i64 t447 4) = 0
     ·rw [if_pos c28] at H
      have c28b1 : ((Go.bits .and .i64 t447 4) != 0) = false := bne_eq_false_iff_eq.mpr c28
      clear c28
      by_cases c29 : (Go.bits .and .i64 t447 8) = 0
      ·rw [if_pos c29] at H
       have c29b1 : ((Go.bits .and .i64 t447 8) != 0) = false := bne_eq_false_iff_eq.mpr c29
       clear c29
       simp only [Option.some.injEq, Prod.mk.injEq] at H
       obtain ⟨rfl, rfl, rfl, rfl, rfl, rfl, rfl⟩ := H
       have hcz32 := zc_5 (w := wc) BK446.1
       have hcz34 := zc_5 (w := wc) BK439.1
       go_wp2
       refine bodyPost_ret (results_cell_row rfl _ _ gb439 71 #[.int .i64 t443, .int .i64 x447001_3, .int .i64 x447002_20, .int .i64 0, .int .i64 0] (0, 0) _ rfl (by exact zp5 (zK BK439.1)) Try.underlying71 rfl (by kernel_rfl)) rfl ?_
       exact ⟨zE, zB42, zB36, zB37⟩
      rw [if_neg c29] at H
      have c29b1 : ((Go.bits .and .i64 t447 8) != 0) = true := bne_iff_ne.mpr c29
      obtain ⟨y454, hy454⟩ : ∃ y_ : List Int, y_ = (([0, 1, 2, 4, 8, 9, 12, 20, 23] : List Int)) := ⟨_, rfl⟩
      replace H : ((spec_l1PickInt.f s0_0 x1001_20 x1002_20 y454).bind fun bt457 => (some (t443, x447001_3, x447002_20, 0, bt457.1, bt457.2.1, bt457.2.2))) = some (r1, r2, r3, r4, r5, r6, r7) := by first | (rw [hy454]; with_reducible exact H) | (have H2_ := (Option.bind_some _ _).symm.trans H; rw [hy454]; with_reducible exact H2_) | (have H2_ := (Option.bind_some _ _).symm.trans H; with_reducible exact H2_) | with_reducible exact H | (rw [hy454]; exact H) | exact H
      have Ny454 := zM hy454
      clear hy454
      replace H := zO H
      obtain ⟨⟨t457, t458, t459⟩, A35, H⟩ := H
      try dsimp only at H
      simp only [Option.some.injEq, Prod.mk.injEq] at H
      obtain ⟨rfl, rfl, rfl, rfl, rfl, rfl, rfl⟩ := H
      go_wp2_with (first | ((with_reducible refine gate_dst (N := 34) rfl ?_); refine Kd.R_lit (Kd.int .i64) _ 3 ?hg (N := 34) ?hd (xs := ([0, 1, 2, 4, 8, 9, 12, 20, 23] : List Int)) (inner := [.int .i64 0, .int .i64 1, .int .i64 2, .int .i64 4, .int .i64 8, .int .i64 9, .int .i64 12, .int .i64 20, .int .i64 23]) (ok := fun _ => True) (okp := fun _ => True) ?hr ?hp (fun _ hk => hk) trivial (Below.refl _ _) (Nat.le_refl _) (by simp) ?_; (case hd => rfl); (case hg => rfl); (case hr => exact zHH); (case hp => exact (Reps.one (show Kd.M (Kd.int .i64) _ _ _ 0 [.int .i64 0] from rfl) (Reps.one (show Kd.M (Kd.int .i64) _ _ _ 1 [.int .i64 1] from rfl) (Reps.one (show Kd.M (Kd.int .i64) _ _ _ 2 [.int .i64 2] from rfl) (Reps.one (show Kd.M (Kd.int .i64) _ _ _ 4 [.int .i64 4] from rfl) (Reps.one (show Kd.M (Kd.int .i64) _ _ _ 8 [.int .i64 8] from rfl) (Reps.one (show Kd.M (Kd.int .i64) _ _ _ 9 [.int .i64 9] from rfl) (Reps.one (show Kd.M (Kd.int .i64) _ _ _ 12 [.int .i64 12] from rfl) (Reps.one (show Kd.M (Kd.int .i64) _ _ _ 20 [.int .i64 20] from rfl) (Reps.one (show Kd.M (Kd.int .i64) _ _ _ 23 [.int .i64 23] from rfl) (Reps.none _ _))))))))))); intro v455 w36 ho37 hb hg_ hnew_; clear hg_ hnew_; (first | rw [← Ny454.1] at ho37 | (simp only [Int.reduceToNat] at ho37; rw [← Ny454.1] at ho37)); have HO456 := zM (Kd.R_lower ho37 (keep_size (w := w) (g := g) (row := none) zB37)); replace BK439 := zM (zb BK439.1 hb); replace BK446 := zM (zb BK446.1 hb); replace HK := zM (KeepBut.trans zB37 (KeepBut.of_below hb g none) (.inl rfl)); replace HB := zM (below_step zB36 hb); replace HI0 := zM (IsS90.below zB42 hb); clear hb ho37; obtain ⟨Ao38, co38, eo38⟩ := Kd.R_slice HO456.1; subst eo38) | ((with_reducible refine zG Try.func61 35 #[.pointer (some ⟨g, 0, none⟩), .slice Ao38 y454.length co38] ?_); (with_reducible refine (spec_l1PickInt.calls g s0_0 x1001_20 x1002_20 _ _ y454 t457 t458 t459 w0 _ ?side1 ?side2 ?side3 ?side4 ?side5 A35.1).mono ?_); (case side1 => exact zB42); (case side2 => exact zB36); (case side3 => exact zC (Kd.R_reads' HO456.1).2.2); (case side4 => exact (Kd.R_reads' HO456.1).2.1); (case side5 => exact far_slice (IsS90.own_ne HI0.1 HO456.1 (by decide))); rintro e w39 ⟨rfl, hi, hb, hk⟩; refine ⟨_, rfl, ?_⟩; replace BK439 := zM (zh hk BK439.1 NB439_0.1); replace BK446 := zM (zh hk BK446.1 NB446_0.1); replace HK := zM (KeepBut.trans zB37 hk (.inl rfl)); replace HB := zM hb; replace HI0 := zM hi; clear hb hk hi; have hnc40 := NB439_446.1; have hnb41 := NB446_0.1; have hnc41 := NB0_446.1; have hcz42 := zc_5 (w := w39) BK446.1; have hnb43 := NB439_0.1; have hnc43 := NB0_439.1; have hcz44 := zc_5 (w := w39) BK439.1))
      refine bodyPost_ret (results_cell_row rfl _ _ gb439 71 #[.int .i64 t443, .int .i64 x447001_3, .int .i64 x447002_20, .int .i64 0, .int .i64 t457] (0, 0) _ rfl (by refine zP ?_; refine blk_put (cs := #[.int .i64 t443, .int .i64 x447001_3, .int .i64 x447002_20, .int .i64 0, .int .i64 0]) ?_ 4 _ rfl; refine zP ?_; refine blk_put (cs := #[.int .i64 t443, .int .i64 x447001_3, .int .i64 x447002_20, .int .i64 0, .int .i64 0]) ?_ 3 _ rfl; refine zP ?_; refine blk_put (cs := #[.int .i64 t443, .int .i64 x447001_3, .int .i64 0, .int .i64 0, .int .i64 0]) ?_ 2 _ rfl; refine zP ?_; refine blk_put (cs := #[.int .i64 t443, .int .i64 0, .int .i64 0, .int .i64 0, .int .i64 0]) ?_ 1 _ rfl; refine zP ?_; refine blk_put (cs := #[.int .i64 0, .int .i64 0, .int .i64 0, .int .i64 0, .int .i64 0]) ?_ 0 _ rfl; refine zP ?_; refine blk_far ?_ NB439_446.1 _; refine zP ?_; exact BK439.1) Try.underlying71 rfl (by kernel_rfl)) rfl ?_
      exact ⟨zE, zB42, zB36, zB37⟩
     rw [if_neg c28] at H
     have c28b1 : ((Go.bits .and .i64 t447 4) != 0) = true := bne_iff_ne.mpr c28
     replace H := zO H
     obtain ⟨⟨t460, t461, t462⟩, A45, H⟩ := H
     try dsimp only at H
     by_cases c46 : (Go.bits .and .i64 t447 8) = 0
     ·rw [if_pos c46] at H
      have c46b1 : ((Go.bits .and .i64 t447 8) != 0) = false := bne_eq_false_iff_eq.mpr c46
      clear c46
      simp only [Option.some.injEq, Prod.mk.injEq] at H
      obtain ⟨rfl, rfl, rfl, rfl, rfl, rfl, rfl⟩ := H
      go_wp2_with (first | ((with_reducible refine zG Try.func42 28 #[.pointer (some ⟨g, 0, none⟩), .int .i64 4] ?_); (with_reducible refine (spec_l1Below.calls g s0_0 x1001_20 x1002_20 4 t460 t461 t462 w0 _ ?side1 ?side2 A45.1).mono ?_); (case side1 => exact zB42); (case side2 => exact zB36); rintro e w47 ⟨rfl, hi, hb, hk⟩; refine ⟨_, rfl, ?_⟩; replace BK439 := zM (zh hk BK439.1 NB439_0.1); replace BK446 := zM (zh hk BK446.1 NB446_0.1); replace HK := zM (KeepBut.trans zB37 hk (.inl rfl)); replace HB := zM hb; replace HI0 := zM hi; clear hb hk hi; have hnc48 := NB439_446.1; have hnb49 := NB446_0.1; have hnc49 := NB0_446.1; have hcz50 := zc_5 (w := w47) BK446.1; have hnb51 := NB439_0.1; have hnc51 := NB0_439.1; have hcz52 := zc_5 (w := w47) BK439.1))
      refine bodyPost_ret (results_cell_row rfl _ _ gb439 71 #[.int .i64 t443, .int .i64 x447001_3, .int .i64 x447002_20, .int .i64 t460, .int .i64 0] (0, 0) _ rfl (by refine zP ?_; refine blk_put (cs := #[.int .i64 t443, .int .i64 x447001_3, .int .i64 x447002_20, .int .i64 t460, .int .i64 0]) ?_ 4 _ rfl; refine zP ?_; refine blk_put (cs := #[.int .i64 t443, .int .i64 x447001_3, .int .i64 x447002_20, .int .i64 0, .int .i64 0]) ?_ 3 _ rfl; refine zP ?_; refine blk_put (cs := #[.int .i64 t443, .int .i64 x447001_3, .int .i64 0, .int .i64 0, .int .i64 0]) ?_ 2 _ rfl; refine zP ?_; refine blk_put (cs := #[.int .i64 t443, .int .i64 0, .int .i64 0, .int .i64 0, .int .i64 0]) ?_ 1 _ rfl; refine zP ?_; refine blk_put (cs := #[.int .i64 0, .int .i64 0, .int .i64 0, .int .i64 0, .int .i64 0]) ?_ 0 _ rfl; refine zP ?_; refine blk_far ?_ NB439_446.1 _; refine zP ?_; exact BK439.1) Try.underlying71 rfl (by kernel_rfl)) rfl ?_
      exact ⟨zE, zB42, zB36, zB37⟩
     rw [if_neg c46] at H
     have c46b1 : ((Go.bits .and .i64 t447 8) != 0) = true := bne_iff_ne.mpr c46
     obtain ⟨y463, hy463⟩ : ∃ y_ : List Int, y_ = (([0, 1, 2, 4, 8, 9, 12, 20, 23] : List Int)) := ⟨_, rfl⟩
     replace H : ((spec_l1PickInt.f s0_0 t461 t462 y463).bind fun bt466 => (some (t443, x447001_3, x447002_20, t460, bt466.1, bt466.2.1, bt466.2.2))) = some (r1, r2, r3, r4, r5, r6, r7) := by first | (rw [hy463]; with_reducible exact H) | (have H2_ := (Option.bind_some _ _).symm.trans H; rw [hy463]; with_reducible exact H2_) | (have H2_ := (Option.bind_some _ _).symm.trans H; with_reducible exact H2_) | with_reducible exact H | (rw [hy463]; exact H) | exact H
     have Ny463 := zM hy463
     clear hy463
     replace H := zO H
     obtain ⟨⟨t466, t467, t468⟩, A53, H⟩ := H
     try dsimp only at H
     simp only [Option.some.injEq, Prod.mk.injEq] at H
     obtain ⟨rfl, rfl, rfl, rfl, rfl, rfl, rfl⟩ := H
     go_wp2_with (first | ((with_reducible refine zG Try.func42 28 #[.pointer (some ⟨g, 0, none⟩), .int .i64 4] ?_); (with_reducible refine (spec_l1Below.calls g s0_0 x1001_20 x1002_20 4 t460 t461 t462 w0 _ ?side1 ?side2 A45.1).mono ?_); (case side1 => exact zB42); (case side2 => exact zB36); rintro e w54 ⟨rfl, hi, hb, hk⟩; refine ⟨_, rfl, ?_⟩; replace BK439 := zM (zh hk BK439.1 NB439_0.1); replace BK446 := zM (zh hk BK446.1 NB446_0.1); replace HK := zM (KeepBut.trans zB37 hk (.inl rfl)); replace HB := zM hb; replace HI0 := zM hi; clear hb hk hi; have hnc55 := NB439_446.1; have hnb56 := NB446_0.1; have hnc56 := NB0_446.1; have hcz57 := zc_5 (w := w54) BK446.1) | ((with_reducible refine gate_dst (N := 34) rfl ?_); refine Kd.R_lit (Kd.int .i64) _ 3 ?hg (N := 34) ?hd (xs := ([0, 1, 2, 4, 8, 9, 12, 20, 23] : List Int)) (inner := [.int .i64 0, .int .i64 1, .int .i64 2, .int .i64 4, .int .i64 8, .int .i64 9, .int .i64 12, .int .i64 20, .int .i64 23]) (ok := fun _ => True) (okp := fun _ => True) ?hr ?hp (fun _ hk => hk) trivial (Below.refl _ _) (Nat.le_refl _) (by simp) ?_; (case hd => rfl); (case hg => rfl); (case hr => exact zHH); (case hp => exact (Reps.one (show Kd.M (Kd.int .i64) _ _ _ 0 [.int .i64 0] from rfl) (Reps.one (show Kd.M (Kd.int .i64) _ _ _ 1 [.int .i64 1] from rfl) (Reps.one (show Kd.M (Kd.int .i64) _ _ _ 2 [.int .i64 2] from rfl) (Reps.one (show Kd.M (Kd.int .i64) _ _ _ 4 [.int .i64 4] from rfl) (Reps.one (show Kd.M (Kd.int .i64) _ _ _ 8 [.int .i64 8] from rfl) (Reps.one (show Kd.M (Kd.int .i64) _ _ _ 9 [.int .i64 9] from rfl) (Reps.one (show Kd.M (Kd.int .i64) _ _ _ 12 [.int .i64 12] from rfl) (Reps.one (show Kd.M (Kd.int .i64) _ _ _ 20 [.int .i64 20] from rfl) (Reps.one (show Kd.M (Kd.int .i64) _ _ _ 23 [.int .i64 23] from rfl) (Reps.none _ _))))))))))); intro v464 w58 ho59 hb hg_ hnew_; clear hg_ hnew_; (first | rw [← Ny463.1] at ho59 | (simp only [Int.reduceToNat] at ho59; rw [← Ny463.1] at ho59)); have HO465 := zM (Kd.R_lower ho59 (keep_size (w := w) (g := g) (row := none) zB37)); replace BK439 := zM (zf BK439.1 hb); replace BK446 := zM (blk_below (g := gb446) (o := .cells #[.int .i64 t443, .int .i64 x447001_3, .int .i64 x447002_20, .int .i64 t460, .int .i64 0] 71 (0, 0)) (by refine zP ?_; refine blk_put (cs := #[.int .i64 t443, .int .i64 x447001_3, .int .i64 x447002_20, .int .i64 0, .int .i64 0]) ?_ 3 _ rfl; refine zP ?_; exact BK446.1) hb); replace HK := zM (KeepBut.trans zB37 (KeepBut.of_below hb g none) (.inl rfl)); replace HB := zM (below_step zB36 hb); replace HI0 := zM (IsS90.below (show IsS90 w0 (w54.setCell ⟨gb446, 3, none⟩ (.int .i64 t460)) g s0_0 t461 t462 from zB42) hb); clear hb ho59; obtain ⟨Ao60, co60, eo60⟩ := Kd.R_slice HO465.1; subst eo60) | ((with_reducible refine zG Try.func61 35 #[.pointer (some ⟨g, 0, none⟩), .slice Ao60 y463.length co60] ?_); (with_reducible refine (spec_l1PickInt.calls g s0_0 t461 t462 _ _ y463 t466 t467 t468 w0 _ ?side1 ?side2 ?side3 ?side4 ?side5 A53.1).mono ?_); (case side1 => exact zB42); (case side2 => exact zB36); (case side3 => exact zC (Kd.R_reads' HO465.1).2.2); (case side4 => exact (Kd.R_reads' HO465.1).2.1); (case side5 => exact far_slice (IsS90.own_ne HI0.1 HO465.1 (by decide))); rintro e w61 ⟨rfl, hi, hb, hk⟩; refine ⟨_, rfl, ?_⟩; replace BK439 := zM (zh hk BK439.1 NB439_0.1); replace BK446 := zM (zh hk BK446.1 NB446_0.1); replace HK := zM (KeepBut.trans zB37 hk (.inl rfl)); replace HB := zM hb; replace HI0 := zM hi; clear hb hk hi; have hcz62 := zc_5 (w := w61) BK446.1; have hnb63 := NB439_0.1; have hnc63 := NB0_439.1; have hcz64 := zc_5 (w := w61) BK439.1))
     refine bodyPost_ret (results_cell_row rfl _ _ gb439 71 #[.int .i64 t443, .int .i64 x447001_3, .int .i64 x447002_20, .int .i64 t460, .int .i64 t466] (0, 0) _ rfl (by refine zP ?_; refine blk_put (cs := #[.int .i64 t443, .int .i64 x447001_3, .int .i64 x447002_20, .int .i64 t460, .int .i64 0]) ?_ 4 _ rfl; refine zP ?_; refine blk_put (cs := #[.int .i64 t443, .int .i64 x447001_3, .int .i64 x447002_20, .int .i64 0, .int .i64 0]) ?_ 3 _ rfl; refine zP ?_; refine blk_put (cs := #[.int .i64 t443, .int .i64 x447001_3, .int .i64 0, .int .i64 0, .int .i64 0]) ?_ 2 _ rfl; refine zP ?_; refine blk_put (cs := #[.int .i64 t443, .int .i64 0, .int .i64 0, .int .i64 0, .int .i64 0]) ?_ 1 _ rfl; refine zP ?_; refine blk_put (cs := #[.int .i64 0, .int .i64 0, .int .i64 0, .int .i64 0, .int .i64 0]) ?_ 0 _ rfl; refine zP ?_; refine blk_far ?_ NB439_446.1 _; refine zP ?_; exact BK439.1) Try.underlying71 rfl (by kernel_rfl)) rfl ?_
     exact ⟨zE, zB42, zB36, zB37⟩

/-! ### spec_l9DrawMem: function 81 -/
mutual
def spec_l9DrawMem.l0 : Nat → List Int → Int → List Int → Int → Int → Option (List Int × Int × Int)
 | 0, _, _, _, _, _ => none
 | k + 1, x3, x4, x1000, x1001, x1002 => if x4 < 24 then ((spec_l8DrawIns.f k x1000 x1001 x1002).bind fun bt472 => ((spec_Code.f bt472.1 bt472.2.1 bt472.2.2.1 bt472.2.2.2.1 bt472.2.2.2.2.1).bind fun bt479 => (if x4 > 15 then ((spec_l1PickInt.f x1000 bt472.2.2.2.2.2.1 bt472.2.2.2.2.2.2 (([0, 1, 5, 65535] : List Int))).bind fun bt484 => (if x3.length < 17592186044416 then (spec_l9DrawMem.l0 k (x3 ++ [bt484.1]) (wrap64 (x4 + 1)) x1000 bt484.2.1 bt484.2.2) else (none))) else ((spec_l1Once.f x1000 bt472.2.2.2.2.2.1 bt472.2.2.2.2.2.2 9).bind fun bt490 => (if bt490.1 = true then ((spec_l1PickInt.f x1000 bt490.2.1 bt490.2.2 (([0, 1, 5, 65535] : List Int))).bind fun bt496 => (if x3.length < 17592186044416 then (spec_l9DrawMem.l0 k (x3 ++ [bt496.1]) (wrap64 (x4 + 1)) x1000 bt496.2.1 bt496.2.2) else (none))) else (if x3.length < 17592186044416 then (spec_l9DrawMem.l0 k (x3 ++ [bt479.1]) (wrap64 (x4 + 1)) x1000 bt490.2.1 bt490.2.2) else (none))))))) else ((spec_l1Below.f x1000 x1001 x1002 4).bind fun bt505 => (if bt505.1 = 0 then (spec_l9DrawMem.l1 k x3 (([(⟨1, 1, 0, 0, 1⟩ : S71), (⟨6, 2, 0, 1, 20⟩ : S71), (⟨10, 3, 2, 1, 0⟩ : S71), (⟨8, 0, 0, 0, 1⟩ : S71)] : List (S71))) 0 x1000 bt505.2.1 bt505.2.2) else (if bt505.1 = 1 then (spec_l9DrawMem.l2 k x3 (([(⟨4, 1, 0, 0, 8⟩ : S71), (⟨3, 1, 1, 0, 1⟩ : S71), (⟨5, 0, 0, 1, 8⟩ : S71), (⟨8, 0, 0, 0, 8⟩ : S71)] : List (S71))) 0 x1000 bt505.2.1 bt505.2.2) else (some (x3, bt505.2.1, bt505.2.2)))))
def spec_l9DrawMem.l1 : Nat → List Int → List (S71) → Int → List Int → Int → Int → Option (List Int × Int × Int)
 | 0, _, _, _, _, _, _ => none
 | k + 1, x3, x7, x8, x1000, x1001, x1002 => if x8 < (x7.length : Int) then (if 0 ≤ x8 then ((spec_Code.f ((rd_T71 x7 x8).f0) ((rd_T71 x7 x8).f1) ((rd_T71 x7 x8).f2) ((rd_T71 x7 x8).f3) ((rd_T71 x7 x8).f4)).bind fun bt512 => (if x8 < (x3.length : Int) then (spec_l9DrawMem.l1 k (x3.set (x8 : Int).toNat bt512.1) x7 (wrap64 (x8 + 1)) x1000 x1001 x1002) else (none))) else (none)) else (some (x3, x1001, x1002))
def spec_l9DrawMem.l2 : Nat → List Int → List (S71) → Int → List Int → Int → Int → Option (List Int × Int × Int)
 | 0, _, _, _, _, _, _ => none
 | k + 1, x3, x9, x10, x1000, x1001, x1002 => if x10 < (x9.length : Int) then (if 0 ≤ x10 then ((spec_Code.f ((rd_T71 x9 x10).f0) ((rd_T71 x9 x10).f1) ((rd_T71 x9 x10).f2) ((rd_T71 x9 x10).f3) ((rd_T71 x9 x10).f4)).bind fun bt519 => (if x10 < (x3.length : Int) then (spec_l9DrawMem.l2 k (x3.set (x10 : Int).toNat bt519.1) x9 (wrap64 (x10 + 1)) x1000 x1001 x1002) else (none))) else (none)) else (some (x3, x1001, x1002))
end
def spec_l9DrawMem.f (k : Nat) (s0_0 : List Int) (s0_1 : Int) (s0_2 : Int) : Option (List Int × Int × Int) := spec_l9DrawMem.l0 k (([] : List Int)) 0 s0_0 s0_1 s0_2
theorem spec_l9DrawMem.mono_l : ∀ k, (∀ y0 y1 y2 y3 y4, LeO (spec_l9DrawMem.l0 k y0 y1 y2 y3 y4) (spec_l9DrawMem.l0 (k + 1) y0 y1 y2 y3 y4)) ∧ (∀ y0 y1 y2 y3 y4 y5, LeO (spec_l9DrawMem.l1 k y0 y1 y2 y3 y4 y5) (spec_l9DrawMem.l1 (k + 1) y0 y1 y2 y3 y4 y5)) ∧ (∀ y0 y1 y2 y3 y4 y5, LeO (spec_l9DrawMem.l2 k y0 y1 y2 y3 y4 y5) (spec_l9DrawMem.l2 (k + 1) y0 y1 y2 y3 y4 y5))
 | 0 => ⟨fun _ _ _ _ _ r h => by simp [spec_l9DrawMem.l0] at h, fun _ _ _ _ _ _ r h => by simp [spec_l9DrawMem.l1] at h, fun _ _ _ _ _ _ r h => by simp [spec_l9DrawMem.l2] at h⟩
 | k + 1 => by
  obtain ⟨ih0, ih1, ih2⟩ := spec_l9DrawMem.mono_l k
  refine ⟨?_, ?_, ?_⟩
  ·intros
   unfold spec_l9DrawMem.l0
   have mo0 := @spec_l8DrawIns.mono
   exact zL
  ·intros
   unfold spec_l9DrawMem.l1
   have mo0 := @spec_l8DrawIns.mono
   exact zL
  ·intros
   unfold spec_l9DrawMem.l2
   have mo0 := @spec_l8DrawIns.mono
   exact zL
theorem spec_l9DrawMem.mono : ∀ a0 a1 a2 k, LeO (spec_l9DrawMem.f k a0 a1 a2) (spec_l9DrawMem.f (k + 1) a0 a1 a2) := by
 intro a0 a1 a2 k
 obtain ⟨ih0, ih1, ih2⟩ := spec_l9DrawMem.mono_l k
 unfold spec_l9DrawMem.f
 have mo0 := @spec_l8DrawIns.mono
 exact zL
theorem spec_l9DrawMem.calls (k : Nat) (g : Nat) (s0_0 : List Int) (s0_1 : Int) (s0_2 : Int) (r1 : List Int) (r2 : Int) (r3 : Int) (w0 w : World) (hI : IsS90 w0 w g s0_0 s0_1 s0_2) (hB : Below w0.heap.size w0 w) (h : spec_l9DrawMem.f k s0_0 s0_1 s0_2 = some (r1, r2, r3)) :
  Calls Try.prog 81 #[.pointer (some ⟨g, 0, none⟩)] w fun e w' => ∃ v0_ : Value, e = .returned (v0_) ∧ Kd.R (Kd.int .i64) 3 w' w.heap.size (fun _ => True) v0_ r1 ∧ IsS90 w0 w' g s0_0 r2 r3 ∧ Below w0.heap.size w0 w' ∧ KeepBut w w' g none := by
 have hu71 := Try.underlying71
 have HI0 := zM hI
 have HK := zM (KeepBut.refl w g none)
 have HL := zM hB.size
 clear hI
 have HB := zM hB
 clear hB
 unfold spec_l9DrawMem.f at h
 have H := h
 clear h
 obtain ⟨y469, hy469⟩ : ∃ y_ : List Int, y_ = (([] : List Int)) := ⟨_, rfl⟩
 replace H : (spec_l9DrawMem.l0 k y469 0 s0_0 s0_1 s0_2) = some (r1, r2, r3) := by first | (rw [hy469]; with_reducible exact H) | (have H2_ := (Option.bind_some _ _).symm.trans H; rw [hy469]; with_reducible exact H2_) | (have H2_ := (Option.bind_some _ _).symm.trans H; with_reducible exact H2_) | with_reducible exact H | (rw [hy469]; exact H) | exact H
 have Ny469 := zM hy469
 clear hy469
 have H' := zM H
 clear H
 go_enter Try.func81, Try.ntmps81
 go_wp2_with (first | ((with_reducible refine gate_dst (N := 11) rfl ?_); refine Kd.R_lit (Kd.int .i64) _ 3 ?hg (N := 11) ?hd (xs := ([] : List Int)) (inner := []) (ok := fun _ => True) (okp := fun _ => True) ?hr ?hp (fun _ hk => hk) trivial (Below.refl _ _) (Nat.le_refl _) (by simp) ?_; (case hd => rfl); (case hg => rfl); (case hr => exact zHH); (case hp => exact (Reps.none _ _)); intro v470 w2 ho3 hb hg_ hnew_; clear hg_ hnew_; (first | rw [← Ny469.1] at ho3 | (simp only [Int.reduceToNat] at ho3; rw [← Ny469.1] at ho3)); have HO471 := zM (Kd.R_lower ho3 (keep_size (w := w) (g := g) (row := none) zB37)); replace HK := zM (KeepBut.trans zB37 (KeepBut.of_below hb g none) (.inl rfl)); replace HB := zM (below_step zB36 hb); replace HI0 := zM (IsS90.below zB35 hb); clear hb ho3))
 go_loopg [3, 4] k (fun kq v3 v4 w' => ∃ (x3_1 : List Int) (x4_1 : Int) (x1001_1 : Int) (x1002_1 : Int), v4 = .int .i64 x4_1 ∧ Aside0 (spec_l9DrawMem.l0 kq x3_1 x4_1 s0_0 x1001_1 x1002_1 = some (r1, r2, r3)) ∧ Aside0 (kq ≤ k) ∧ Aside0 (Kd.R (Kd.int .i64) 3 w' w.heap.size (fun _ => True) v3 x3_1) ∧ Aside0 (IsS90 w0 w' g s0_0 x1001_1 x1002_1) ∧ Aside0 (KeepBut w w' g none) ∧ Aside0 (Below w0.heap.size w0 w'))
 case atStart => exact ⟨(y469), (0), (s0_1), (s0_2), zJJ, H', ⟨Nat.le_refl _⟩, ⟨zR HO471.1⟩, ⟨zB35⟩, ⟨zB37⟩, ⟨zB36⟩⟩
 case round =>
  clear H'
  try clear p2
  obtain ⟨x3_1, x4_1, x1001_1, x1002_1, rfl, HA, HK1, HO_3, HI0, HK, HB⟩ := hrel
  cases gk with
  | zero => exact absurd HA.1 (by simp [spec_l9DrawMem.l0])
  | succ k1 =>
   have H := HA.1
   clear HA
   simp only [spec_l9DrawMem.l0] at H
   by_cases c4 : x4_1 < 24
   ·rw [if_pos c4] at H
    have c4b0 := decide_eq_true c4
    clear c4
    replace H := zO H
    obtain ⟨⟨t472, t473, t474, t475, t476, t477, t478⟩, A5, H⟩ := H
    try dsimp only at H
    replace H := zO H
    obtain ⟨⟨t479, t480⟩, A6, H⟩ := H
    try dsimp only at H
    by_cases c7 : x4_1 > 15
    ·rw [if_pos c7] at H
     have c7b0 := decide_eq_true c7
     clear c7
     obtain ⟨y481, hy481⟩ : ∃ y_ : List Int, y_ = (([0, 1, 5, 65535] : List Int)) := ⟨_, rfl⟩
     replace H : ((spec_l1PickInt.f s0_0 t477 t478 y481).bind fun bt484 => (if x3_1.length < 17592186044416 then (spec_l9DrawMem.l0 k1 (x3_1 ++ [bt484.1]) (wrap64 (x4_1 + 1)) s0_0 bt484.2.1 bt484.2.2) else (none))) = some (r1, r2, r3) := by first | (rw [hy481]; with_reducible exact H) | (have H2_ := (Option.bind_some _ _).symm.trans H; rw [hy481]; with_reducible exact H2_) | (have H2_ := (Option.bind_some _ _).symm.trans H; with_reducible exact H2_) | with_reducible exact H | (rw [hy481]; exact H) | exact H
     have Ny481 := zM hy481
     clear hy481
     replace H := zO H
     obtain ⟨⟨t484, t485, t486⟩, A8, H⟩ := H
     try dsimp only at H
     replace H := zIn H
     obtain ⟨LMc9, H⟩ := H
     obtain ⟨y487, hy487⟩ : ∃ y_ : List Int, y_ = (x3_1 ++ [t484]) := ⟨_, rfl⟩
     replace H : (spec_l9DrawMem.l0 k1 y487 (wrap64 (x4_1 + 1)) s0_0 t485 t486) = some (r1, r2, r3) := by first | (rw [hy487]; with_reducible exact H) | (have H2_ := (Option.bind_some _ _).symm.trans H; rw [hy487]; with_reducible exact H2_) | (have H2_ := (Option.bind_some _ _).symm.trans H; with_reducible exact H2_) | with_reducible exact H | (rw [hy487]; exact H) | exact H
     have Ny487 := zM hy487
     clear hy487
     have H' := zM H
     clear H
     go_wp2_with (first | ((with_reducible refine zG Try.func92 18 #[.pointer (some ⟨g, 0, none⟩)] ?_); (with_reducible refine (spec_l8DrawIns.calls k1 g s0_0 x1001_1 x1002_1 t472 t473 t474 t475 t476 t477 t478 w0 _ ?side1 ?side2 A5.1).mono ?_); (case side1 => exact zB35); (case side2 => exact zB36); rintro e w10 ⟨rfl, hi, hb, hk⟩; refine ⟨_, rfl, ?_⟩; replace HO_3 := zM (Kd.R_mono (Kd.R_keep (IsS90.apart (show IsS90 w0 _ g s0_0 x1001_1 x1002_1 from zB35) (zR HO_3.1) (by decide)) hk (fun _ h => h.2)) (fun _ h => h.1)); replace HK := zM (KeepBut.trans zB37 hk (.inl rfl)); replace HB := zM hb; replace HI0 := zM hi; clear hb hk hi) | ((with_reducible refine zG Try.func91 19 #[.agg #[.int .i64 t472, .int .i64 t473, .int .i64 t474, .int .i64 t475, .int .i64 t476]] ?_); (with_reducible refine (spec_Code.calls t472 t473 t474 t475 t476 t479 t480 _ A6.1).mono ?_); rintro e w11 ⟨rfl, hb⟩; refine ⟨_, rfl, ?_⟩; replace HO_3 := zM (Kd.R_below (zR HO_3.1) hb); replace HK := zM (KeepBut.trans zB37 (KeepBut.of_below hb g none) (.inl rfl)); replace HB := zM (below_step zB36 hb); replace HI0 := zM (IsS90.below zB35 hb); clear hb) | ((with_reducible refine gate_dst (N := 29) rfl ?_); refine Kd.R_lit (Kd.int .i64) _ 3 ?hg (N := 29) ?hd (xs := ([0, 1, 5, 65535] : List Int)) (inner := [.int .i64 0, .int .i64 1, .int .i64 5, .int .i64 65535]) (ok := fun _ => True) (okp := fun _ => True) ?hr ?hp (fun _ hk => hk) trivial (Below.refl _ _) (Nat.le_refl _) (by simp) ?_; (case hd => rfl); (case hg => rfl); (case hr => exact zHH); (case hp => exact (Reps.one (show Kd.M (Kd.int .i64) _ _ _ 0 [.int .i64 0] from rfl) (Reps.one (show Kd.M (Kd.int .i64) _ _ _ 1 [.int .i64 1] from rfl) (Reps.one (show Kd.M (Kd.int .i64) _ _ _ 5 [.int .i64 5] from rfl) (Reps.one (show Kd.M (Kd.int .i64) _ _ _ 65535 [.int .i64 65535] from rfl) (Reps.none _ _)))))); intro v482 w12 ho13 hb hg_ hnew_; clear hg_ hnew_; (first | rw [← Ny481.1] at ho13 | (simp only [Int.reduceToNat] at ho13; rw [← Ny481.1] at ho13)); have HO483 := zM (Kd.R_lower (Kd.R_new' ho13 (Kd.R_lt (zR HO_3.1))) (keep_size (w := w) (g := g) (row := none) zB37)); replace HO_3 := zM (Kd.R_elder' (zR HO_3.1) (Kd.R_base ho13) hb); replace HK := zM (KeepBut.trans zB37 (KeepBut.of_below hb g none) (.inl rfl)); replace HB := zM (below_step zB36 hb); replace HI0 := zM (IsS90.below zB35 hb); clear hb ho13; obtain ⟨Ao14, co14, eo14⟩ := Kd.R_slice HO483.1; subst eo14) | ((with_reducible refine zG Try.func61 30 #[.pointer (some ⟨g, 0, none⟩), .slice Ao14 y481.length co14] ?_); (with_reducible refine (spec_l1PickInt.calls g s0_0 t477 t478 _ _ y481 t484 t485 t486 w0 _ ?side1 ?side2 ?side3 ?side4 ?side5 A8.1).mono ?_); (case side1 => exact zB35); (case side2 => exact zB36); (case side3 => exact zC (Kd.R_reads' HO483.1).2.2); (case side4 => exact (Kd.R_reads' HO483.1).2.1); (case side5 => exact far_slice (IsS90.own_ne HI0.1 HO483.1 (by decide))); rintro e w15 ⟨rfl, hi, hb, hk⟩; refine ⟨_, rfl, ?_⟩; replace HO_3 := zM (Kd.R_mono (Kd.R_keep (IsS90.apart (show IsS90 w0 _ g s0_0 t477 t478 from zB35) (zR HO_3.1) (by decide)) hk (fun _ h => h.2)) (fun _ h => h.1)); replace HO483 := zM (Kd.R_mono (Kd.R_keep (IsS90.apart (show IsS90 w0 _ g s0_0 t477 t478 from zB35) (zR HO483.1) (by decide)) hk (fun _ h => h.2)) (fun _ h => h.1)); replace HK := zM (KeepBut.trans zB37 hk (.inl rfl)); replace HB := zM hb; replace HI0 := zM hi; clear hb hk hi) | ((with_reducible refine gate_builtin (b := .append) (xs := #[.tmp 31, .tmp 33]) rfl ?_); at_builtin; refine Kd.R_append (Kd.int .i64) w.heap.size rfl (.tmp 31) (.tmp 33) 29 3 (.int .i64 0) 8 rfl Try.underlying29 info3 rfl (by decide) (by omega) u3 x3_1 t484 [.int .i64 t484] (fun k_ => some k_ ≠ (.slice Ao14 y481.length co14 : Value).ownBlock) (fun _ => False) rfl rfl ?aP (fun _ hk => hk.elim) ?aF ?aO (Below.refl _ _) ?aS ?aL ?_; (case aP => exact rfl); (case aF => exact (fun k_ hk => Kd.fresh' (Kd.R_lt (zR HO483.1)) k_ hk)); (case aO => exact (by refine zrR ?_; exact Kd.R_mono HO_3.1 (fun _ hk => hk.2))); (case aS => exact (keep_size (w := w) (g := g) (row := none) zB37)); (case aL => have := LMc9.out; omega); intro v488 w16 ho hb hg hat; rw [← Ny487.1] at ho; replace HB := zM (below_weaken zB36 HL.1 hb); replace HI0 := zM (IsS90.grown (show IsS90 w0 _ g s0_0 t485 t486 from zB35) hg (IsS90.own_ne HI0.1 HO_3.1 (by decide))); replace HK := zM (KeepBut.trans zB37 (KeepBut.of_grown hg g) (Kd.R_base2 HO_3.1)); have HO489 := zM ho; clear HO_3; clear ho hb hg hat))
     go_roundg k1
     case measure => have := HK1.1; omega
     case rel => exact ⟨(y487), (wrap64 (x4_1 + 1)), (t485), (t486), zJJ, H', ⟨by have := HK1.1; omega⟩, ⟨by refine zrR ?_; exact Kd.R_mono HO489.1 (fun _ hk => trivial)⟩, ⟨zB35⟩, ⟨zB37⟩, ⟨zB36⟩⟩
    rw [if_neg c7] at H
    have c7b0 := decide_eq_false c7
    clear c7
    replace H := zO H
    obtain ⟨⟨t490, t491, t492⟩, A17, H⟩ := H
    try dsimp only at H
    by_cases c18 : t490 = true
    rotate_left
    ·replace c18 := Bool.eq_false_iff.mpr c18
     subst c18
     rw [if_neg zF] at H
     replace H := zIn H
     obtain ⟨LMc29, H⟩ := H
     obtain ⟨y502, hy502⟩ : ∃ y_ : List Int, y_ = (x3_1 ++ [t479]) := ⟨_, rfl⟩
     replace H : (spec_l9DrawMem.l0 k1 y502 (wrap64 (x4_1 + 1)) s0_0 t491 t492) = some (r1, r2, r3) := by first | (rw [hy502]; with_reducible exact H) | (have H2_ := (Option.bind_some _ _).symm.trans H; rw [hy502]; with_reducible exact H2_) | (have H2_ := (Option.bind_some _ _).symm.trans H; with_reducible exact H2_) | with_reducible exact H | (rw [hy502]; exact H) | exact H
     have Ny502 := zM hy502
     clear hy502
     have H' := zM H
     clear H
     go_wp2_with (first | ((with_reducible refine zG Try.func92 18 #[.pointer (some ⟨g, 0, none⟩)] ?_); (with_reducible refine (spec_l8DrawIns.calls k1 g s0_0 x1001_1 x1002_1 t472 t473 t474 t475 t476 t477 t478 w0 _ ?side1 ?side2 A5.1).mono ?_); (case side1 => exact zB35); (case side2 => exact zB36); rintro e w30 ⟨rfl, hi, hb, hk⟩; refine ⟨_, rfl, ?_⟩; replace HO_3 := zM (Kd.R_mono (Kd.R_keep (IsS90.apart (show IsS90 w0 _ g s0_0 x1001_1 x1002_1 from zB35) (zR HO_3.1) (by decide)) hk (fun _ h => h.2)) (fun _ h => h.1)); replace HK := zM (KeepBut.trans zB37 hk (.inl rfl)); replace HB := zM hb; replace HI0 := zM hi; clear hb hk hi) | ((with_reducible refine zG Try.func91 19 #[.agg #[.int .i64 t472, .int .i64 t473, .int .i64 t474, .int .i64 t475, .int .i64 t476]] ?_); (with_reducible refine (spec_Code.calls t472 t473 t474 t475 t476 t479 t480 _ A6.1).mono ?_); rintro e w31 ⟨rfl, hb⟩; refine ⟨_, rfl, ?_⟩; replace HO_3 := zM (Kd.R_below (zR HO_3.1) hb); replace HK := zM (KeepBut.trans zB37 (KeepBut.of_below hb g none) (.inl rfl)); replace HB := zM (below_step zB36 hb); replace HI0 := zM (IsS90.below zB35 hb); clear hb) | (go_at_call 58; (with_reducible refine (spec_l1Once.calls g s0_0 t477 t478 9 false t491 t492 w0 _ ?side1 ?side2 A17.1).mono ?_); (case side1 => exact zB35); (case side2 => exact zB36); rintro e w32 ⟨rfl, hi, hb, hk⟩; replace HO_3 := zM (Kd.R_mono (Kd.R_keep (IsS90.apart (show IsS90 w0 _ g s0_0 t477 t478 from zB35) (zR HO_3.1) (by decide)) hk (fun _ h => h.2)) (fun _ h => h.1)); replace HK := zM (KeepBut.trans zB37 hk (.inl rfl)); replace HB := zM hb; replace HI0 := zM hi; clear hb hk hi) | ((with_reducible refine gate_builtin (b := .append) (xs := #[.tmp 31, .tmp 33]) rfl ?_); at_builtin; refine Kd.R_append (Kd.int .i64) w.heap.size rfl (.tmp 31) (.tmp 33) 29 3 (.int .i64 0) 8 rfl Try.underlying29 info3 rfl (by decide) (by omega) u3 x3_1 t479 [.int .i64 t479] (fun _ => True) (fun _ => False) rfl rfl ?aP (fun _ hk => hk.elim) ?aF ?aO (Below.refl _ _) ?aS ?aL ?_; (case aP => exact rfl); (case aF => exact (fun _ _ => trivial)); (case aO => exact (zR HO_3.1)); (case aS => exact (keep_size (w := w) (g := g) (row := none) zB37)); (case aL => have := LMc29.out; omega); intro v503 w33 ho hb hg hat; rw [← Ny502.1] at ho; replace HB := zM (below_weaken zB36 HL.1 hb); replace HI0 := zM (IsS90.grown (show IsS90 w0 _ g s0_0 t491 t492 from zB35) hg (IsS90.own_ne HI0.1 HO_3.1 (by decide))); replace HK := zM (KeepBut.trans zB37 (KeepBut.of_grown hg g) (Kd.R_base2 HO_3.1)); have HO504 := zM ho; clear HO_3; clear ho hb hg hat))
     go_roundg k1
     case measure => have := HK1.1; omega
     case rel => exact ⟨(y502), (wrap64 (x4_1 + 1)), (t491), (t492), zJJ, H', ⟨by have := HK1.1; omega⟩, ⟨zR HO504.1⟩, ⟨zB35⟩, ⟨zB37⟩, ⟨zB36⟩⟩
    subst c18
    rw [if_pos rfl] at H
    obtain ⟨y493, hy493⟩ : ∃ y_ : List Int, y_ = (([0, 1, 5, 65535] : List Int)) := ⟨_, rfl⟩
    replace H : ((spec_l1PickInt.f s0_0 t491 t492 y493).bind fun bt496 => (if x3_1.length < 17592186044416 then (spec_l9DrawMem.l0 k1 (x3_1 ++ [bt496.1]) (wrap64 (x4_1 + 1)) s0_0 bt496.2.1 bt496.2.2) else (none))) = some (r1, r2, r3) := by first | (rw [hy493]; with_reducible exact H) | (have H2_ := (Option.bind_some _ _).symm.trans H; rw [hy493]; with_reducible exact H2_) | (have H2_ := (Option.bind_some _ _).symm.trans H; with_reducible exact H2_) | with_reducible exact H | (rw [hy493]; exact H) | exact H
    have Ny493 := zM hy493
    clear hy493
    replace H := zO H
    obtain ⟨⟨t496, t497, t498⟩, A19, H⟩ := H
    try dsimp only at H
    replace H := zIn H
    obtain ⟨LMc20, H⟩ := H
    obtain ⟨y499, hy499⟩ : ∃ y_ : List Int, y_ = (x3_1 ++ [t496]) := ⟨_, rfl⟩
    replace H : (spec_l9DrawMem.l0 k1 y499 (wrap64 (x4_1 + 1)) s0_0 t497 t498) = some (r1, r2, r3) := by first | (rw [hy499]; with_reducible exact H) | (have H2_ := (Option.bind_some _ _).symm.trans H; rw [hy499]; with_reducible exact H2_) | (have H2_ := (Option.bind_some _ _).symm.trans H; with_reducible exact H2_) | with_reducible exact H | (rw [hy499]; exact H) | exact H
    have Ny499 := zM hy499
    clear hy499
    have H' := zM H
    clear H
    go_wp2_with (first | ((with_reducible refine zG Try.func92 18 #[.pointer (some ⟨g, 0, none⟩)] ?_); (with_reducible refine (spec_l8DrawIns.calls k1 g s0_0 x1001_1 x1002_1 t472 t473 t474 t475 t476 t477 t478 w0 _ ?side1 ?side2 A5.1).mono ?_); (case side1 => exact zB35); (case side2 => exact zB36); rintro e w21 ⟨rfl, hi, hb, hk⟩; refine ⟨_, rfl, ?_⟩; replace HO_3 := zM (Kd.R_mono (Kd.R_keep (IsS90.apart (show IsS90 w0 _ g s0_0 x1001_1 x1002_1 from zB35) (zR HO_3.1) (by decide)) hk (fun _ h => h.2)) (fun _ h => h.1)); replace HK := zM (KeepBut.trans zB37 hk (.inl rfl)); replace HB := zM hb; replace HI0 := zM hi; clear hb hk hi) | ((with_reducible refine zG Try.func91 19 #[.agg #[.int .i64 t472, .int .i64 t473, .int .i64 t474, .int .i64 t475, .int .i64 t476]] ?_); (with_reducible refine (spec_Code.calls t472 t473 t474 t475 t476 t479 t480 _ A6.1).mono ?_); rintro e w22 ⟨rfl, hb⟩; refine ⟨_, rfl, ?_⟩; replace HO_3 := zM (Kd.R_below (zR HO_3.1) hb); replace HK := zM (KeepBut.trans zB37 (KeepBut.of_below hb g none) (.inl rfl)); replace HB := zM (below_step zB36 hb); replace HI0 := zM (IsS90.below zB35 hb); clear hb) | (go_at_call 58; (with_reducible refine (spec_l1Once.calls g s0_0 t477 t478 9 true t491 t492 w0 _ ?side1 ?side2 A17.1).mono ?_); (case side1 => exact zB35); (case side2 => exact zB36); rintro e w23 ⟨rfl, hi, hb, hk⟩; replace HO_3 := zM (Kd.R_mono (Kd.R_keep (IsS90.apart (show IsS90 w0 _ g s0_0 t477 t478 from zB35) (zR HO_3.1) (by decide)) hk (fun _ h => h.2)) (fun _ h => h.1)); replace HK := zM (KeepBut.trans zB37 hk (.inl rfl)); replace HB := zM hb; replace HI0 := zM hi; clear hb hk hi) | ((with_reducible refine gate_dst (N := 29) rfl ?_); refine Kd.R_lit (Kd.int .i64) _ 3 ?hg (N := 29) ?hd (xs := ([0, 1, 5, 65535] : List Int)) (inner := [.int .i64 0, .int .i64 1, .int .i64 5, .int .i64 65535]) (ok := fun _ => True) (okp := fun _ => True) ?hr ?hp (fun _ hk => hk) trivial (Below.refl _ _) (Nat.le_refl _) (by simp) ?_; (case hd => rfl); (case hg => rfl); (case hr => exact zHH); (case hp => exact (Reps.one (show Kd.M (Kd.int .i64) _ _ _ 0 [.int .i64 0] from rfl) (Reps.one (show Kd.M (Kd.int .i64) _ _ _ 1 [.int .i64 1] from rfl) (Reps.one (show Kd.M (Kd.int .i64) _ _ _ 5 [.int .i64 5] from rfl) (Reps.one (show Kd.M (Kd.int .i64) _ _ _ 65535 [.int .i64 65535] from rfl) (Reps.none _ _)))))); intro v494 w24 ho25 hb hg_ hnew_; clear hg_ hnew_; (first | rw [← Ny493.1] at ho25 | (simp only [Int.reduceToNat] at ho25; rw [← Ny493.1] at ho25)); have HO495 := zM (Kd.R_lower (Kd.R_new' ho25 (Kd.R_lt (zR HO_3.1))) (keep_size (w := w) (g := g) (row := none) zB37)); replace HO_3 := zM (Kd.R_elder' (zR HO_3.1) (Kd.R_base ho25) hb); replace HK := zM (KeepBut.trans zB37 (KeepBut.of_below hb g none) (.inl rfl)); replace HB := zM (below_step zB36 hb); replace HI0 := zM (IsS90.below zB35 hb); clear hb ho25; obtain ⟨Ao26, co26, eo26⟩ := Kd.R_slice HO495.1; subst eo26) | ((with_reducible refine zG Try.func61 30 #[.pointer (some ⟨g, 0, none⟩), .slice Ao26 y493.length co26] ?_); (with_reducible refine (spec_l1PickInt.calls g s0_0 t491 t492 _ _ y493 t496 t497 t498 w0 _ ?side1 ?side2 ?side3 ?side4 ?side5 A19.1).mono ?_); (case side1 => exact zB35); (case side2 => exact zB36); (case side3 => exact zC (Kd.R_reads' HO495.1).2.2); (case side4 => exact (Kd.R_reads' HO495.1).2.1); (case side5 => exact far_slice (IsS90.own_ne HI0.1 HO495.1 (by decide))); rintro e w27 ⟨rfl, hi, hb, hk⟩; refine ⟨_, rfl, ?_⟩; replace HO_3 := zM (Kd.R_mono (Kd.R_keep (IsS90.apart (show IsS90 w0 _ g s0_0 t491 t492 from zB35) (zR HO_3.1) (by decide)) hk (fun _ h => h.2)) (fun _ h => h.1)); replace HO495 := zM (Kd.R_mono (Kd.R_keep (IsS90.apart (show IsS90 w0 _ g s0_0 t491 t492 from zB35) (zR HO495.1) (by decide)) hk (fun _ h => h.2)) (fun _ h => h.1)); replace HK := zM (KeepBut.trans zB37 hk (.inl rfl)); replace HB := zM hb; replace HI0 := zM hi; clear hb hk hi) | ((with_reducible refine gate_builtin (b := .append) (xs := #[.tmp 31, .tmp 33]) rfl ?_); at_builtin; refine Kd.R_append (Kd.int .i64) w.heap.size rfl (.tmp 31) (.tmp 33) 29 3 (.int .i64 0) 8 rfl Try.underlying29 info3 rfl (by decide) (by omega) u3 x3_1 t496 [.int .i64 t496] (fun k_ => some k_ ≠ (.slice Ao26 y493.length co26 : Value).ownBlock) (fun _ => False) rfl rfl ?aP (fun _ hk => hk.elim) ?aF ?aO (Below.refl _ _) ?aS ?aL ?_; (case aP => exact rfl); (case aF => exact (fun k_ hk => Kd.fresh' (Kd.R_lt (zR HO495.1)) k_ hk)); (case aO => exact (by refine zrR ?_; exact Kd.R_mono HO_3.1 (fun _ hk => hk.2))); (case aS => exact (keep_size (w := w) (g := g) (row := none) zB37)); (case aL => have := LMc20.out; omega); intro v500 w28 ho hb hg hat; rw [← Ny499.1] at ho; replace HB := zM (below_weaken zB36 HL.1 hb); replace HI0 := zM (IsS90.grown (show IsS90 w0 _ g s0_0 t497 t498 from zB35) hg (IsS90.own_ne HI0.1 HO_3.1 (by decide))); replace HK := zM (KeepBut.trans zB37 (KeepBut.of_grown hg g) (Kd.R_base2 HO_3.1)); have HO501 := zM ho; clear HO_3; clear ho hb hg hat))
    go_roundg k1
    case measure => have := HK1.1; omega
    case rel => exact ⟨(y499), (wrap64 (x4_1 + 1)), (t497), (t498), zJJ, H', ⟨by have := HK1.1; omega⟩, ⟨by refine zrR ?_; exact Kd.R_mono HO501.1 (fun _ hk => trivial)⟩, ⟨zB35⟩, ⟨zB37⟩, ⟨zB36⟩⟩
   rw [if_neg c4] at H
   have c4b0 := decide_eq_false c4
   clear c4
   replace H := zO H
   obtain ⟨⟨t505, t506, t507⟩, A34, H⟩ := H
   try dsimp only at H
   by_cases c35 : t505 = 0
   ·rw [if_pos c35] at H
    have c35b0 : (t505 == 0) = true := beq_iff_eq.mpr c35
    clear c35
    obtain ⟨y508, hy508⟩ : ∃ y_ : List (S71), y_ = (([(⟨1, 1, 0, 0, 1⟩ : S71), (⟨6, 2, 0, 1, 20⟩ : S71), (⟨10, 3, 2, 1, 0⟩ : S71), (⟨8, 0, 0, 0, 1⟩ : S71)] : List (S71))) := ⟨_, rfl⟩
    replace H : (spec_l9DrawMem.l1 k1 x3_1 y508 0 s0_0 t506 t507) = some (r1, r2, r3) := by first | (rw [hy508]; with_reducible exact H) | (have H2_ := (Option.bind_some _ _).symm.trans H; rw [hy508]; with_reducible exact H2_) | (have H2_ := (Option.bind_some _ _).symm.trans H; with_reducible exact H2_) | with_reducible exact H | (rw [hy508]; exact H) | exact H
    have Ny508 := zM hy508
    clear hy508
    have H' := zM H
    clear H
    go_wp2_with (first | ((with_reducible refine zG Try.func42 36 #[.pointer (some ⟨g, 0, none⟩), .int .i64 4] ?_); (with_reducible refine (spec_l1Below.calls g s0_0 x1001_1 x1002_1 4 t505 t506 t507 w0 _ ?side1 ?side2 A34.1).mono ?_); (case side1 => exact zB35); (case side2 => exact zB36); rintro e w36 ⟨rfl, hi, hb, hk⟩; refine ⟨_, rfl, ?_⟩; replace HO_3 := zM (Kd.R_mono (Kd.R_keep (IsS90.apart (show IsS90 w0 _ g s0_0 x1001_1 x1002_1 from zB35) (zR HO_3.1) (by decide)) hk (fun _ h => h.2)) (fun _ h => h.1)); replace HK := zM (KeepBut.trans zB37 hk (.inl rfl)); replace HB := zM hb; replace HI0 := zM hi; clear hb hk hi) | ((with_reducible refine gate_dst (N := 43) rfl ?_); refine Kd.R_lit k71 _ 71 ?hg (N := 43) ?hd (xs := ([(⟨1, 1, 0, 0, 1⟩ : S71), (⟨6, 2, 0, 1, 20⟩ : S71), (⟨10, 3, 2, 1, 0⟩ : S71), (⟨8, 0, 0, 0, 1⟩ : S71)] : List (S71))) (inner := [.int .i64 1, .int .i64 1, .int .i64 0, .int .i64 0, .int .i64 1, .int .i64 6, .int .i64 2, .int .i64 0, .int .i64 1, .int .i64 20, .int .i64 10, .int .i64 3, .int .i64 2, .int .i64 1, .int .i64 0, .int .i64 8, .int .i64 0, .int .i64 0, .int .i64 0, .int .i64 1]) (ok := fun _ => True) (okp := fun _ => True) ?hr ?hp (fun _ hk => hk) trivial (Below.refl _ _) (Nat.le_refl _) (by simp) ?_; (case hd => rfl); (case hg => rfl); (case hr => exact zHH); (case hp => exact (Reps.c5 (show Kd.M k71 _ _ _ (⟨1, 1, 0, 0, 1⟩ : S71) [.int .i64 1, .int .i64 1, .int .i64 0, .int .i64 0, .int .i64 1] from (k71_mkM _ _ _ (⟨1, 1, 0, 0, 1⟩ : S71) )) (Reps.c5 (show Kd.M k71 _ _ _ (⟨6, 2, 0, 1, 20⟩ : S71) [.int .i64 6, .int .i64 2, .int .i64 0, .int .i64 1, .int .i64 20] from (k71_mkM _ _ _ (⟨6, 2, 0, 1, 20⟩ : S71) )) (Reps.c5 (show Kd.M k71 _ _ _ (⟨10, 3, 2, 1, 0⟩ : S71) [.int .i64 10, .int .i64 3, .int .i64 2, .int .i64 1, .int .i64 0] from (k71_mkM _ _ _ (⟨10, 3, 2, 1, 0⟩ : S71) )) (Reps.c5 (show Kd.M k71 _ _ _ (⟨8, 0, 0, 0, 1⟩ : S71) [.int .i64 8, .int .i64 0, .int .i64 0, .int .i64 0, .int .i64 1] from (k71_mkM _ _ _ (⟨8, 0, 0, 0, 1⟩ : S71) )) (Reps.none _ _)))))); intro v509 w37 ho38 hb hg_ hnew_; clear hg_ hnew_; (first | rw [← Ny508.1] at ho38 | (simp only [Int.reduceToNat] at ho38; rw [← Ny508.1] at ho38)); replace HO_3 := zM (Kd.R_below (zR HO_3.1) hb); have HO510 := zM (Kd.R_lower ho38 (keep_size (w := w) (g := g) (row := none) zB37)); replace HK := zM (KeepBut.trans zB37 (KeepBut.of_below hb g none) (.inl rfl)); replace HB := zM (below_step zB36 hb); replace HI0 := zM (IsS90.below zB35 hb); clear hb ho38))
    go_loopg [8] k1 (fun kq v8 w' => ∃ (x3_2 : List Int) (x8_2 : Int), v8 = .int .i64 x8_2 ∧ Aside0 (spec_l9DrawMem.l1 kq x3_2 y508 x8_2 s0_0 t506 t507 = some (r1, r2, r3)) ∧ Aside0 (kq ≤ k1) ∧ Aside0 (Kd.R (Kd.int .i64) 3 w' w.heap.size (fun _ => True) u3 x3_2) ∧ Aside0 (Kd.R k71 71 w' w.heap.size (fun _ => True) v509 y508) ∧ Aside0 (IsS90 w0 w' g s0_0 t506 t507) ∧ Aside0 (KeepBut w w' g none) ∧ Aside0 (Below w0.heap.size w0 w'))
    case atStart => exact ⟨(x3_1), (0), zJJ, H', ⟨Nat.le_refl _⟩, ⟨zR HO_3.1⟩, ⟨zR HO510.1⟩, ⟨zB35⟩, ⟨zB37⟩, ⟨zB36⟩⟩
    case round =>
     clear H'
     try clear c1
     try clear c2
     try clear p2
     try clear c3
     try clear c4
     try clear c4b0
     try clear c5
     try clear c6
     try clear p6
     try clear c7
     try clear c7b0
     try clear c8
     try clear c9
     try clear c18
     try clear c20
     try clear c29
     try clear c35
     try clear c35b0
     try clear c35b1
     try clear p2
     obtain ⟨x3_2, x8_2, rfl, HA, HK2, HO_3, HO_7, HI0, HK, HB⟩ := hrel
     cases gk with
     | zero => exact absurd HA.1 (by simp [spec_l9DrawMem.l1])
     | succ k2 =>
      have H := HA.1
      clear HA
      simp only [spec_l9DrawMem.l1] at H
      by_cases c39 : x8_2 < (y508.length : Int)
      rotate_left
      ·rw [if_neg c39] at H
       have c39b0 := decide_eq_false c39
       clear c39
       simp only [Option.some.injEq, Prod.mk.injEq] at H
       obtain ⟨rfl, rfl, rfl⟩ := H
       obtain ⟨Ao48, co48, eo48⟩ := Kd.R_slice HO_7.1
       subst eo48
       go_wp2
       go_ret
       exact ⟨_, zE, zR HO_3.1, zB35, zB36, zB37⟩
      rw [if_pos c39] at H
      have c39b0 := decide_eq_true c39
      clear c39
      replace H := zIt H
      obtain ⟨c40b0, H⟩ := H
      replace H := zO H
      obtain ⟨⟨t512, t513⟩, A41, H⟩ := H
      try dsimp only at H
      replace H := zIt H
      obtain ⟨c42b0, H⟩ := H
      obtain ⟨y514, hy514⟩ : ∃ y_ : List Int, y_ = (x3_2.set (x8_2 : Int).toNat t512) := ⟨_, rfl⟩
      replace H : (spec_l9DrawMem.l1 k2 y514 y508 (wrap64 (x8_2 + 1)) s0_0 t506 t507) = some (r1, r2, r3) := by first | (rw [hy514]; with_reducible exact H) | (have H2_ := (Option.bind_some _ _).symm.trans H; rw [hy514]; with_reducible exact H2_) | (have H2_ := (Option.bind_some _ _).symm.trans H; with_reducible exact H2_) | with_reducible exact H | (rw [hy514]; exact H) | exact H
      have Ny514 := zM hy514
      clear hy514
      have H' := zM H
      clear H
      obtain ⟨Ao44, co44, eo44⟩ := Kd.R_slice HO_7.1
      subst eo44
      have p511 : 0 ≤ (x8_2 : Int) := zA
      have q511 : x8_2 < (y508.length : Int) := zA
      obtain ⟨ad511, e511, hx511_0, hx511_1, hx511_2, hx511_3, hx511_4⟩ := at_T71 (Kd.R_reads' HO_7.1).2.2 x8_2 p511 q511
      cases e511
      replace p511 := eq_true p511
      replace q511 := eq_true q511
      go_wp2_with (first | ((with_reducible refine zG Try.func91 57 #[.agg #[.int .i64 ((rd_T71 y508 x8_2).f0), .int .i64 ((rd_T71 y508 x8_2).f1), .int .i64 ((rd_T71 y508 x8_2).f2), .int .i64 ((rd_T71 y508 x8_2).f3), .int .i64 ((rd_T71 y508 x8_2).f4)]] ?_); (with_reducible refine (spec_Code.calls ((rd_T71 y508 x8_2).f0) ((rd_T71 y508 x8_2).f1) ((rd_T71 y508 x8_2).f2) ((rd_T71 y508 x8_2).f3) ((rd_T71 y508 x8_2).f4) t512 t513 _ A41.1).mono ?_); rintro e w45 ⟨rfl, hb⟩; refine ⟨_, rfl, ?_⟩; replace HO_3 := zM (Kd.R_below (zR HO_3.1) hb); replace HO_7 := zM (Kd.R_below (zR HO_7.1) hb); replace HK := zM (KeepBut.trans zB37 (KeepBut.of_below hb g none) (.inl rfl)); replace HB := zM (below_step zB36 hb); replace HI0 := zM (IsS90.below zB35 hb); clear hb; have p43 : 0 ≤ (x8_2 : Int) := zA; have q43 : (x8_2 : Int) < ((x3_2.length : Int) : Int) := zA; obtain ⟨go43, co43, eo43, gb43, gl43, cl43, HG43⟩ := Kd.R_form HO_3.1 (by omega); (first | cases eo43 | (injection eo43 with ea_ en_ ec_; (first | subst ea_ | (injection ea_ with ea_; subst ea_)); subst ec_; clear en_)); have GB43 := zM gb43; clear gb43 gl43 HG43; obtain ⟨hx43_0, hf43_0⟩ := Kd.R_celln 0 HO_3.1 (x8_2 : Int) p43 q43; replace p43 := eq_true p43; replace q43 := eq_true q43; obtain ⟨hy46_, hz46_⟩ := Kd.R_celln 0 HO_3.1 (x8_2 : Int) zA zA; have HP46 := Kd.R_putg HO_3.1 (x8_2 : Int) t512) | ((with_reducible refine gate_store (t := 3) (p := 60) rfl ?_); refine store_event (t := 3) (p := 60) (v := ?vo_w47) (w1 := (w45.setCell ⟨go43, (x8_2 : Int).toNat, none⟩ (.int .i64 t512))) ?hg ?ho ?hn ?hr ?_; (case ho => rfl); (case hg => rfl); (case hn => rfl); (case hr => exact zHH); intro w47 hw; have hg : w45.grownBy w47 (some go43) := (by rw [hw]; exact HP46.2); have hp_ : Kd.R (Kd.int .i64) 3 w47 w.heap.size (fun _ => True) (.slice (some ⟨go43, 0, none⟩) x3_2.length co43) y514 := (by rw [hw, Ny514.1]; exact HP46.1); clear HP46; replace HO_7 := zM (Kd.R_over' (v := (.slice (some ⟨go43, 0, none⟩) x3_2.length co43)) (zR HO_7.1) (Kd.R_typed HO_3.1) (by decide) hg); replace HI0 := zM (IsS90.grown zB35 hg (IsS90.own_ne HI0.1 HO_3.1 (by decide))); replace HB := zM ((by rw [hw]; exact below_set (HB.1) (Nat.le_trans HL.1 GB43.1) : Below w0.heap.size w0 w47)); replace HK := zM (KeepBut.trans zB37 (KeepBut.of_grown hg g) (Kd.R_base2 HO_3.1)); replace HO_3 := zM hp_; clear hg hw hp_))
      go_roundg k2
      case measure => have := HK1.1; have := HK2.1; omega
      case rel => exact ⟨(y514), (wrap64 (x8_2 + 1)), zJJ, H', ⟨by have := HK1.1; have := HK2.1; omega⟩, ⟨zR HO_3.1⟩, ⟨zR HO_7.1⟩, ⟨zB35⟩, ⟨zB37⟩, ⟨zB36⟩⟩
   rw [if_neg c35] at H
   have c35b0 : (t505 == 0) = false := beq_eq_false_iff_ne.mpr c35
   by_cases c49 : t505 = 1
   rotate_left
   ·rw [if_neg c49] at H
    have c49b0 : (t505 == 1) = false := beq_eq_false_iff_ne.mpr c49
    simp only [Option.some.injEq, Prod.mk.injEq] at H
    obtain ⟨rfl, rfl, rfl⟩ := H
    go_wp2_with (first | ((with_reducible refine zG Try.func42 36 #[.pointer (some ⟨g, 0, none⟩), .int .i64 4] ?_); (with_reducible refine (spec_l1Below.calls g s0_0 x1001_1 x1002_1 4 t505 t506 t507 w0 _ ?side1 ?side2 A34.1).mono ?_); (case side1 => exact zB35); (case side2 => exact zB36); rintro e w63 ⟨rfl, hi, hb, hk⟩; refine ⟨_, rfl, ?_⟩; replace HO_3 := zM (Kd.R_mono (Kd.R_keep (IsS90.apart (show IsS90 w0 _ g s0_0 x1001_1 x1002_1 from zB35) (zR HO_3.1) (by decide)) hk (fun _ h => h.2)) (fun _ h => h.1)); replace HK := zM (KeepBut.trans zB37 hk (.inl rfl)); replace HB := zM hb; replace HI0 := zM hi; clear hb hk hi))
    go_ret
    exact ⟨_, zE, zR HO_3.1, zB35, zB36, zB37⟩
   rw [if_pos c49] at H
   have c49b0 : (t505 == 1) = true := beq_iff_eq.mpr c49
   clear c49
   obtain ⟨y515, hy515⟩ : ∃ y_ : List (S71), y_ = (([(⟨4, 1, 0, 0, 8⟩ : S71), (⟨3, 1, 1, 0, 1⟩ : S71), (⟨5, 0, 0, 1, 8⟩ : S71), (⟨8, 0, 0, 0, 8⟩ : S71)] : List (S71))) := ⟨_, rfl⟩
   replace H : (spec_l9DrawMem.l2 k1 x3_1 y515 0 s0_0 t506 t507) = some (r1, r2, r3) := by first | (rw [hy515]; with_reducible exact H) | (have H2_ := (Option.bind_some _ _).symm.trans H; rw [hy515]; with_reducible exact H2_) | (have H2_ := (Option.bind_some _ _).symm.trans H; with_reducible exact H2_) | with_reducible exact H | (rw [hy515]; exact H) | exact H
   have Ny515 := zM hy515
   clear hy515
   have H' := zM H
   clear H
   go_wp2_with (first | ((with_reducible refine zG Try.func42 36 #[.pointer (some ⟨g, 0, none⟩), .int .i64 4] ?_); (with_reducible refine (spec_l1Below.calls g s0_0 x1001_1 x1002_1 4 t505 t506 t507 w0 _ ?side1 ?side2 A34.1).mono ?_); (case side1 => exact zB35); (case side2 => exact zB36); rintro e w50 ⟨rfl, hi, hb, hk⟩; refine ⟨_, rfl, ?_⟩; replace HO_3 := zM (Kd.R_mono (Kd.R_keep (IsS90.apart (show IsS90 w0 _ g s0_0 x1001_1 x1002_1 from zB35) (zR HO_3.1) (by decide)) hk (fun _ h => h.2)) (fun _ h => h.1)); replace HK := zM (KeepBut.trans zB37 hk (.inl rfl)); replace HB := zM hb; replace HI0 := zM hi; clear hb hk hi) | ((with_reducible refine gate_dst (N := 67) rfl ?_); refine Kd.R_lit k71 _ 71 ?hg (N := 67) ?hd (xs := ([(⟨4, 1, 0, 0, 8⟩ : S71), (⟨3, 1, 1, 0, 1⟩ : S71), (⟨5, 0, 0, 1, 8⟩ : S71), (⟨8, 0, 0, 0, 8⟩ : S71)] : List (S71))) (inner := [.int .i64 4, .int .i64 1, .int .i64 0, .int .i64 0, .int .i64 8, .int .i64 3, .int .i64 1, .int .i64 1, .int .i64 0, .int .i64 1, .int .i64 5, .int .i64 0, .int .i64 0, .int .i64 1, .int .i64 8, .int .i64 8, .int .i64 0, .int .i64 0, .int .i64 0, .int .i64 8]) (ok := fun _ => True) (okp := fun _ => True) ?hr ?hp (fun _ hk => hk) trivial (Below.refl _ _) (Nat.le_refl _) (by simp) ?_; (case hd => rfl); (case hg => rfl); (case hr => exact zHH); (case hp => exact (Reps.c5 (show Kd.M k71 _ _ _ (⟨4, 1, 0, 0, 8⟩ : S71) [.int .i64 4, .int .i64 1, .int .i64 0, .int .i64 0, .int .i64 8] from (k71_mkM _ _ _ (⟨4, 1, 0, 0, 8⟩ : S71) )) (Reps.c5 (show Kd.M k71 _ _ _ (⟨3, 1, 1, 0, 1⟩ : S71) [.int .i64 3, .int .i64 1, .int .i64 1, .int .i64 0, .int .i64 1] from (k71_mkM _ _ _ (⟨3, 1, 1, 0, 1⟩ : S71) )) (Reps.c5 (show Kd.M k71 _ _ _ (⟨5, 0, 0, 1, 8⟩ : S71) [.int .i64 5, .int .i64 0, .int .i64 0, .int .i64 1, .int .i64 8] from (k71_mkM _ _ _ (⟨5, 0, 0, 1, 8⟩ : S71) )) (Reps.c5 (show Kd.M k71 _ _ _ (⟨8, 0, 0, 0, 8⟩ : S71) [.int .i64 8, .int .i64 0, .int .i64 0, .int .i64 0, .int .i64 8] from (k71_mkM _ _ _ (⟨8, 0, 0, 0, 8⟩ : S71) )) (Reps.none _ _)))))); intro v516 w51 ho52 hb hg_ hnew_; clear hg_ hnew_; (first | rw [← Ny515.1] at ho52 | (simp only [Int.reduceToNat] at ho52; rw [← Ny515.1] at ho52)); replace HO_3 := zM (Kd.R_below (zR HO_3.1) hb); have HO517 := zM (Kd.R_lower ho52 (keep_size (w := w) (g := g) (row := none) zB37)); replace HK := zM (KeepBut.trans zB37 (KeepBut.of_below hb g none) (.inl rfl)); replace HB := zM (below_step zB36 hb); replace HI0 := zM (IsS90.below zB35 hb); clear hb ho52))
   go_loopg [10] k1 (fun kq v10 w' => ∃ (x3_2 : List Int) (x10_2 : Int), v10 = .int .i64 x10_2 ∧ Aside0 (spec_l9DrawMem.l2 kq x3_2 y515 x10_2 s0_0 t506 t507 = some (r1, r2, r3)) ∧ Aside0 (kq ≤ k1) ∧ Aside0 (Kd.R (Kd.int .i64) 3 w' w.heap.size (fun _ => True) u3 x3_2) ∧ Aside0 (Kd.R k71 71 w' w.heap.size (fun _ => True) v516 y515) ∧ Aside0 (IsS90 w0 w' g s0_0 t506 t507) ∧ Aside0 (KeepBut w w' g none) ∧ Aside0 (Below w0.heap.size w0 w'))
   case atStart => exact ⟨(x3_1), (0), zJJ, H', ⟨Nat.le_refl _⟩, ⟨zR HO_3.1⟩, ⟨zR HO517.1⟩, ⟨zB35⟩, ⟨zB37⟩, ⟨zB36⟩⟩
   case round =>
    clear H'
    try clear c1
    try clear c2
    try clear p2
    try clear c3
    try clear c4
    try clear c4b0
    try clear p4
    try clear q4
    try clear hx4
    try clear hf4
    try clear c5
    try clear p5
    try clear q5
    try clear hx5
    try clear c6
    try clear p6
    try clear c7
    try clear c7b0
    try clear c8
    try clear c9
    try clear c18
    try clear c20
    try clear c29
    try clear c35
    try clear c35b0
    try clear c35b1
    try clear c39
    try clear c39b0
    try clear c40
    try clear c40b0
    try clear c42
    try clear c42b0
    try clear p43
    try clear q43
    try clear hx43
    try clear hf43
    try clear c49
    try clear c49b0
    try clear c49b1
    try clear p51
    try clear q51
    try clear hx51
    try clear hx43_0
    try clear hx511_0
    try clear hx511_1
    try clear hx511_2
    try clear hx511_3
    try clear hx511_4
    try clear p2
    try clear p43
    try clear p511
    try clear p6
    try clear q43
    try clear q511
    obtain ⟨x3_2, x10_2, rfl, HA, HK2, HO_3, HO_9, HI0, HK, HB⟩ := hrel
    cases gk with
    | zero => exact absurd HA.1 (by simp [spec_l9DrawMem.l2])
    | succ k2 =>
     have H := HA.1
     clear HA
     simp only [spec_l9DrawMem.l2] at H
     by_cases c53 : x10_2 < (y515.length : Int)
     rotate_left
     ·rw [if_neg c53] at H
      have c53b0 := decide_eq_false c53
      clear c53
      simp only [Option.some.injEq, Prod.mk.injEq] at H
      obtain ⟨rfl, rfl, rfl⟩ := H
      obtain ⟨Ao62, co62, eo62⟩ := Kd.R_slice HO_9.1
      subst eo62
      go_wp2
      go_ret
      exact ⟨_, zE, zR HO_3.1, zB35, zB36, zB37⟩
     rw [if_pos c53] at H
     have c53b0 := decide_eq_true c53
     clear c53
     replace H := zIt H
     obtain ⟨c54b0, H⟩ := H
     replace H := zO H
     obtain ⟨⟨t519, t520⟩, A55, H⟩ := H
     try dsimp only at H
     replace H := zIt H
     obtain ⟨c56b0, H⟩ := H
     obtain ⟨y521, hy521⟩ : ∃ y_ : List Int, y_ = (x3_2.set (x10_2 : Int).toNat t519) := ⟨_, rfl⟩
     replace H : (spec_l9DrawMem.l2 k2 y521 y515 (wrap64 (x10_2 + 1)) s0_0 t506 t507) = some (r1, r2, r3) := by first | (rw [hy521]; with_reducible exact H) | (have H2_ := (Option.bind_some _ _).symm.trans H; rw [hy521]; with_reducible exact H2_) | (have H2_ := (Option.bind_some _ _).symm.trans H; with_reducible exact H2_) | with_reducible exact H | (rw [hy521]; exact H) | exact H
     have Ny521 := zM hy521
     clear hy521
     have H' := zM H
     clear H
     obtain ⟨Ao58, co58, eo58⟩ := Kd.R_slice HO_9.1
     subst eo58
     have p518 : 0 ≤ (x10_2 : Int) := zA
     have q518 : x10_2 < (y515.length : Int) := zA
     obtain ⟨ad518, e518, hx518_0, hx518_1, hx518_2, hx518_3, hx518_4⟩ := at_T71 (Kd.R_reads' HO_9.1).2.2 x10_2 p518 q518
     cases e518
     replace p518 := eq_true p518
     replace q518 := eq_true q518
     go_wp2_with (first | ((with_reducible refine zG Try.func91 81 #[.agg #[.int .i64 ((rd_T71 y515 x10_2).f0), .int .i64 ((rd_T71 y515 x10_2).f1), .int .i64 ((rd_T71 y515 x10_2).f2), .int .i64 ((rd_T71 y515 x10_2).f3), .int .i64 ((rd_T71 y515 x10_2).f4)]] ?_); (with_reducible refine (spec_Code.calls ((rd_T71 y515 x10_2).f0) ((rd_T71 y515 x10_2).f1) ((rd_T71 y515 x10_2).f2) ((rd_T71 y515 x10_2).f3) ((rd_T71 y515 x10_2).f4) t519 t520 _ A55.1).mono ?_); rintro e w59 ⟨rfl, hb⟩; refine ⟨_, rfl, ?_⟩; replace HO_3 := zM (Kd.R_below (zR HO_3.1) hb); replace HO_9 := zM (Kd.R_below (zR HO_9.1) hb); replace HK := zM (KeepBut.trans zB37 (KeepBut.of_below hb g none) (.inl rfl)); replace HB := zM (below_step zB36 hb); replace HI0 := zM (IsS90.below zB35 hb); clear hb; have p57 : 0 ≤ (x10_2 : Int) := zA; have q57 : (x10_2 : Int) < ((x3_2.length : Int) : Int) := zA; obtain ⟨go57, co57, eo57, gb57, gl57, cl57, HG57⟩ := Kd.R_form HO_3.1 (by omega); (first | cases eo57 | (injection eo57 with ea_ en_ ec_; (first | subst ea_ | (injection ea_ with ea_; subst ea_)); subst ec_; clear en_)); have GB57 := zM gb57; clear gb57 gl57 HG57; obtain ⟨hx57_0, hf57_0⟩ := Kd.R_celln 0 HO_3.1 (x10_2 : Int) p57 q57; replace p57 := eq_true p57; replace q57 := eq_true q57; obtain ⟨hy60_, hz60_⟩ := Kd.R_celln 0 HO_3.1 (x10_2 : Int) zA zA; have HP60 := Kd.R_putg HO_3.1 (x10_2 : Int) t519) | ((with_reducible refine gate_store (t := 3) (p := 84) rfl ?_); refine store_event (t := 3) (p := 84) (v := ?vo_w61) (w1 := (w59.setCell ⟨go57, (x10_2 : Int).toNat, none⟩ (.int .i64 t519))) ?hg ?ho ?hn ?hr ?_; (case ho => rfl); (case hg => rfl); (case hn => rfl); (case hr => exact zHH); intro w61 hw; have hg : w59.grownBy w61 (some go57) := (by rw [hw]; exact HP60.2); have hp_ : Kd.R (Kd.int .i64) 3 w61 w.heap.size (fun _ => True) (.slice (some ⟨go57, 0, none⟩) x3_2.length co57) y521 := (by rw [hw, Ny521.1]; exact HP60.1); clear HP60; replace HO_9 := zM (Kd.R_over' (v := (.slice (some ⟨go57, 0, none⟩) x3_2.length co57)) (zR HO_9.1) (Kd.R_typed HO_3.1) (by decide) hg); replace HI0 := zM (IsS90.grown zB35 hg (IsS90.own_ne HI0.1 HO_3.1 (by decide))); replace HB := zM ((by rw [hw]; exact below_set (HB.1) (Nat.le_trans HL.1 GB57.1) : Below w0.heap.size w0 w61)); replace HK := zM (KeepBut.trans zB37 (KeepBut.of_grown hg g) (Kd.R_base2 HO_3.1)); replace HO_3 := zM hp_; clear hg hw hp_))
     go_roundg k2
     case measure => have := HK1.1; have := HK2.1; omega
     case rel => exact ⟨(y521), (wrap64 (x10_2 + 1)), zJJ, H', ⟨by have := HK1.1; have := HK2.1; omega⟩, ⟨zR HO_3.1⟩, ⟨zR HO_9.1⟩, ⟨zB35⟩, ⟨zB37⟩, ⟨zB36⟩⟩

end Go.Proofs.Ytgbjengnkbomoaa.PFnKnows
