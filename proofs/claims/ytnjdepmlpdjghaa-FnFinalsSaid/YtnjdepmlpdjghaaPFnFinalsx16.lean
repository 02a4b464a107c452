-- made by wip/tools/myprint.py out of the seat's translation
import Derived.Test.YtnjdepmlpdjghaaPFnFinalsx0
import Derived.Test.YtnjdepmlpdjghaaPFnFinalsx9
import Derived.Test.YtnjdepmlpdjghaaPFnFinalsx14
import Derived.Test.YtnjdepmlpdjghaaPFnFinalsx15
namespace Go.Proofs.Ytnjdepmlpdjghaa.PFnFinals
open Go.RowKit Go.Proofs.YtnjdepmlpdjghaaW.PrintWords Go.Proofs.YtnjdepmlpdjghaaW.PrintLast Go.Proofs.YtnjdepmlpdjghaaW.PrintMore
attribute [local go_sem] max2_int min2_int max_two min_two max_three min_three max_four min_four   -- for this text's walks alone
set_option linter.unusedVariables false
set_option linter.unusedSimpArgs false
set_option maxHeartbeats 8000000
set_option maxRecDepth 100000

/-! ### spec_l8DrawIns: function 129 -/
mutual
def spec_l8DrawIns.j0 : Nat → Int → List Int → Int → Int → Int → Int → Int → Int → Int → Option (Int × Int × Int × Int × Int × Int × Int)
 | 0, _, _, _, _, _, _, _, _, _ => none
 | k + 1, x4, x1000, x1001, x1002, x502000, x502001, x502002, x502003, x502004 => if (Go.bits .and .i64 x4 2) = 0 then (spec_l8DrawIns.j1 k x4 x1000 x1001 x1002 x502000 x502001 x502002 x502003 x502004) else ((spec_l1Below.f x1000 x1001 x1002 4).bind fun bt506 => (spec_l8DrawIns.j1 k x4 x1000 bt506.2.1 bt506.2.2 x502000 x502001 bt506.1 x502003 x502004))
def spec_l8DrawIns.j1 : Nat → Int → List Int → Int → Int → Int → Int → Int → Int → Int → Option (Int × Int × Int × Int × Int × Int × Int)
 | 0, _, _, _, _, _, _, _, _, _ => none
 | k + 1, x4, x1000, x1001, x1002, x502000, x502001, x502002, x502003, x502004 => if (Go.bits .and .i64 x4 4) = 0 then (if (Go.bits .and .i64 x4 8) = 0 then (some (x502000, x502001, x502002, x502003, x502004, x1001, x1002)) else ((spec_l1PickInt.f x1000 x1001 x1002 (([0, 1, 2, 4, 8, 9, 12, 20, 23] : List Int))).bind fun bt512 => (some (x502000, x502001, x502002, x502003, bt512.1, bt512.2.1, bt512.2.2)))) else ((spec_l1Below.f x1000 x1001 x1002 4).bind fun bt515 => (if (Go.bits .and .i64 x4 8) = 0 then (some (x502000, x502001, x502002, bt515.1, x502004, bt515.2.1, bt515.2.2)) else ((spec_l1PickInt.f x1000 bt515.2.1 bt515.2.2 (([0, 1, 2, 4, 8, 9, 12, 20, 23] : List Int))).bind fun bt521 => (some (x502000, x502001, x502002, bt515.1, bt521.1, bt521.2.1, bt521.2.2)))))
end
def spec_l8DrawIns.f (k : Nat) (s0_0 : List Int) (s0_1 : Int) (s0_2 : Int) : Option (Int × Int × Int × Int × Int × Int × Int) := (spec_l1PickInt.f s0_0 s0_1 s0_2 (([1, 1, 2, 3, 3, 4, 4, 5, 5, 5, 6, 6, 7, 8, 9, 10] : List Int))).bind fun bt498 => ((spec_l8Has.f bt498.1).bind fun t502 => (if (Go.bits .and .i64 t502 1) = 0 then (spec_l8DrawIns.j0 k t502 s0_0 bt498.2.1 bt498.2.2 bt498.1 0 0 0 0) else ((spec_l1Below.f s0_0 bt498.2.1 bt498.2.2 4).bind fun bt503 => (spec_l8DrawIns.j0 k t502 s0_0 bt503.2.1 bt503.2.2 bt498.1 bt503.1 0 0 0))))
theorem spec_l8DrawIns.mono_l : ∀ k, (∀ y0 y1 y2 y3 y4 y5 y6 y7 y8, LeO (spec_l8DrawIns.j0 k y0 y1 y2 y3 y4 y5 y6 y7 y8) (spec_l8DrawIns.j0 (k + 1) y0 y1 y2 y3 y4 y5 y6 y7 y8)) ∧ (∀ y0 y1 y2 y3 y4 y5 y6 y7 y8, LeO (spec_l8DrawIns.j1 k y0 y1 y2 y3 y4 y5 y6 y7 y8) (spec_l8DrawIns.j1 (k + 1) y0 y1 y2 y3 y4 y5 y6 y7 y8))
 | 0 => ⟨fun _ _ _ _ _ _ _ _ _ r h => by simp [spec_l8DrawIns.j0] at h, fun _ _ _ _ _ _ _ _ _ r h => by simp [spec_l8DrawIns.j1] at h⟩
 | k + 1 => by
  obtain ⟨ih0, ih1⟩ := spec_l8DrawIns.mono_l k
  refine ⟨?_, ?_⟩
  ·intros
   unfold spec_l8DrawIns.j0
   exact zL
  ·intros
   unfold spec_l8DrawIns.j1
   exact zL
theorem spec_l8DrawIns.mono : ∀ a0 a1 a2 k, LeO (spec_l8DrawIns.f k a0 a1 a2) (spec_l8DrawIns.f (k + 1) a0 a1 a2) := by
 intro a0 a1 a2 k
 obtain ⟨ih0, ih1⟩ := spec_l8DrawIns.mono_l k
 unfold spec_l8DrawIns.f
 exact zL
theorem spec_l8DrawIns.calls (k : Nat) (g : Nat) (s0_0 : List Int) (s0_1 : Int) (s0_2 : Int) (r1 : Int) (r2 : Int) (r3 : Int) (r4 : Int) (r5 : Int) (r6 : Int) (r7 : Int) (w0 w : World) (hI : IsS102 w0 w g s0_0 s0_1 s0_2) (hB : Below w0.heap.size w0 w) (h : spec_l8DrawIns.f k s0_0 s0_1 s0_2 = some (r1, r2, r3, r4, r5, r6, r7)) :
  Calls Try.prog 129 #[.pointer (some ⟨g, 0, none⟩)] w fun e w' => e = .returned (.agg #[.int .i64 r1, .int .i64 r2, .int .i64 r3, .int .i64 r4, .int .i64 r5]) ∧ IsS102 w0 w' g s0_0 r6 r7 ∧ Below w0.heap.size w0 w' ∧ KeepBut w w' g none := by
 have hu59 := Try.underlying59
 have HI0 := zM hI
 have HK := zM (KeepBut.refl w g none)
 have HL := zM hB.size
 clear hI
 have HW0 := zM hB.size
 have HB := zM hB
 clear hB
 unfold spec_l8DrawIns.f at h
 have H := h
 clear h
 generalize hy495 : ((([1, 1, 2, 3, 3, 4, 4, 5, 5, 5, 6, 6, 7, 8, 9, 10] : List Int)) : List Int) = y495 at H
 have Ny495 := zM hy495.symm
 clear hy495
 replace H := zO H
 obtain ⟨⟨t498, t499, t500⟩, A2, H⟩ := H
 try dsimp only at H
 replace H := zO H
 obtain ⟨t502, A3, H⟩ := H
 have HC4 := zM H
 clear H
 go_enter Try.func129, Try.ntmps129
 go_upto_if 14 with (first | ((with_reducible refine zBx 2 59 #[.int .i64 0, .int .i64 0, .int .i64 0, .int .i64 0, .int .i64 0] ?_); intro gb494 hg w5 hbox hb; replace HB := zM (below_step zB45 hb); have BK494 := zM hbox; have GW494 := zM ((by rw [hg]; exact (keep_size (w := w) (g := g) (row := none) zB46) : w.heap.size ≤ gb494)); have GE494 := zM ((Nat.le_trans HW0.1 (by rw [hg]; exact (keep_size (w := w) (g := g) (row := none) zB46) : w.heap.size ≤ gb494) : w0.heap.size ≤ gb494)); replace HK := zM (KeepBut.trans zB46 (KeepBut.of_below hb g none) (.inl rfl)); have NB0_494 := zM ((by rw [hg]; exact Nat.ne_of_lt (IsS102.lt (show IsS102 w0 _ g s0_0 s0_1 s0_2 from zB44)) : g ≠ gb494)); have NB494_0 := zM ((by rw [hg]; exact Nat.ne_of_gt (IsS102.lt (show IsS102 w0 _ g s0_0 s0_1 s0_2 from zB44)) : gb494 ≠ g)); replace HI0 := zM (IsS102.below zB44 hb); clear hb hbox hg) | ((with_reducible refine gate_dst (N := 6) rfl ?_); refine Kd.R_lit (Kd.int .i64) _ 3 ?hg (N := 6) ?hd (xs := ([1, 1, 2, 3, 3, 4, 4, 5, 5, 5, 6, 6, 7, 8, 9, 10] : List Int)) (inner := [.int .i64 1, .int .i64 1, .int .i64 2, .int .i64 3, .int .i64 3, .int .i64 4, .int .i64 4, .int .i64 5, .int .i64 5, .int .i64 5, .int .i64 6, .int .i64 6, .int .i64 7, .int .i64 8, .int .i64 9, .int .i64 10]) (ok := fun _ => True) (okp := fun _ => True) ?hr ?hp (fun _ hk => hk) trivial (Below.refl _ _) (Nat.le_refl _) (by simp) ?_; (case hd => rfl); (case hg => rfl); (case hr => exact zHH); (case hp => exact (Reps.one (show Kd.M (Kd.int .i64) _ _ _ 1 [.int .i64 1] from rfl) (Reps.one (show Kd.M (Kd.int .i64) _ _ _ 1 [.int .i64 1] from rfl) (Reps.one (show Kd.M (Kd.int .i64) _ _ _ 2 [.int .i64 2] from rfl) (Reps.one (show Kd.M (Kd.int .i64) _ _ _ 3 [.int .i64 3] from rfl) (Reps.one (show Kd.M (Kd.int .i64) _ _ _ 3 [.int .i64 3] from rfl) (Reps.one (show Kd.M (Kd.int .i64) _ _ _ 4 [.int .i64 4] from rfl) (Reps.one (show Kd.M (Kd.int .i64) _ _ _ 4 [.int .i64 4] from rfl) (Reps.one (show Kd.M (Kd.int .i64) _ _ _ 5 [.int .i64 5] from rfl) (Reps.one (show Kd.M (Kd.int .i64) _ _ _ 5 [.int .i64 5] from rfl) (Reps.one (show Kd.M (Kd.int .i64) _ _ _ 5 [.int .i64 5] from rfl) (Reps.one (show Kd.M (Kd.int .i64) _ _ _ 6 [.int .i64 6] from rfl) (Reps.one (show Kd.M (Kd.int .i64) _ _ _ 6 [.int .i64 6] from rfl) (Reps.one (show Kd.M (Kd.int .i64) _ _ _ 7 [.int .i64 7] from rfl) (Reps.one (show Kd.M (Kd.int .i64) _ _ _ 8 [.int .i64 8] from rfl) (Reps.one (show Kd.M (Kd.int .i64) _ _ _ 9 [.int .i64 9] from rfl) (Reps.one (show Kd.M (Kd.int .i64) _ _ _ 10 [.int .i64 10] from rfl) (Reps.none _ _)))))))))))))))))); intro v496 w6 ho7 hb hg_ hnew_; clear hg_ hnew_; (first | rw [← Ny495.1] at ho7 | (simp only [Int.reduceToNat] at ho7; rw [← Ny495.1] at ho7)); have HO497 := zM (Kd.R_lower ho7 (keep_size (w := w) (g := g) (row := none) zB46)); replace BK494 := zM (zb BK494.1 hb); replace HK := zM (KeepBut.trans zB46 (KeepBut.of_below hb g none) (.inl rfl)); replace HB := zM (below_step zB45 hb); replace HI0 := zM (IsS102.below zB62 hb); clear hb ho7; obtain ⟨Ao8, co8, eo8⟩ := Kd.R_slice HO497.1; subst eo8) | ((with_reducible refine zG Try.func66 7 #[.pointer (some ⟨g, 0, none⟩), .slice Ao8 y495.length co8] ?_); (with_reducible refine (spec_l1PickInt.calls g s0_0 s0_1 s0_2 _ _ y495 t498 t499 t500 w0 _ ?side1 ?side2 ?side3 ?side4 ?side5 A2.1).mono ?_); (case side1 => exact zB62); (case side2 => exact zB45); (case side3 => exact zC (Kd.R_reads' HO497.1).2.2); (case side4 => exact (Kd.R_reads' HO497.1).2.1); (case side5 => exact far_slice (IsS102.own_ne HI0.1 HO497.1 (by decide))); rintro e w9 ⟨rfl, hi, hb, hk⟩; refine ⟨_, rfl, ?_⟩; replace BK494 := zM (zh hk BK494.1 NB494_0.1); replace HO497 := zM (Kd.R_mono (Kd.R_keep (IsS102.apart (show IsS102 w0 _ g s0_0 s0_1 s0_2 from zB62) (zR HO497.1) (by decide)) hk (fun _ h => h.2)) (fun _ h => h.1)); replace HK := zM (KeepBut.trans zB46 hk (.inl rfl)); replace HB := zM hb; replace HI0 := zM hi; clear hb hk hi) | ((with_reducible refine zBx 3 59 #[.int .i64 0, .int .i64 0, .int .i64 0, .int .i64 0, .int .i64 0] ?_); intro gb501 hg w10 hbox hb; replace HO497 := zM (Kd.R_below (zR HO497.1) hb); replace HB := zM (below_step zB45 hb); have BK501 := zM hbox; have GW501 := zM ((by rw [hg]; exact (keep_size (w := w) (g := g) (row := none) zB46) : w.heap.size ≤ gb501)); have GE501 := zM ((Nat.le_trans HW0.1 (by rw [hg]; exact (keep_size (w := w) (g := g) (row := none) zB46) : w.heap.size ≤ gb501) : w0.heap.size ≤ gb501)); replace HK := zM (KeepBut.trans zB46 (KeepBut.of_below hb g none) (.inl rfl)); have NB494_501 := zM ((zn BK494.1 hg : gb494 ≠ gb501)); have NB501_494 := zM ((zm BK494.1 hg : gb501 ≠ gb494)); replace BK494 := zM (zb BK494.1 hb); have NB0_501 := zM ((by rw [hg]; exact Nat.ne_of_lt (IsS102.lt (show IsS102 w0 _ g s0_0 t499 t500 from zB62)) : g ≠ gb501)); have NB501_0 := zM ((by rw [hg]; exact Nat.ne_of_gt (IsS102.lt (show IsS102 w0 _ g s0_0 t499 t500 from zB62)) : gb501 ≠ g)); replace HI0 := zM (IsS102.below zB62 hb); clear hb hbox hg; have hnb11 := NB501_494.1; have hnc11 := NB494_501.1; have hnb12 := NB501_0.1; have hnc12 := NB0_501.1; have hcz13 := zc_5 (w := w10) BK501.1) | ((with_reducible refine zG Try.func131 11 #[.int .i64 t498] ?_); (with_reducible refine (spec_l8Has.calls t498 t502 _ A3.1).mono ?_); rintro e w14 ⟨rfl, hb⟩; refine ⟨_, rfl, ?_⟩; replace HO497 := zM (Kd.R_below (by refine zrR ?_; exact (Kd.R_mono (zfR (zfR (zfR (zfR (zfR (Kd.R_types HO497.1 BK501.1 (by decide))))))) (fun _ h_ => h_.1))) hb); replace BK494 := zM (zf BK494.1 hb); replace BK501 := zM (blk_below (g := gb501) (o := .cells #[.int .i64 t498, .int .i64 0, .int .i64 0, .int .i64 0, .int .i64 0] 59 (0, 0)) (by exact zp5 (zK BK501.1)) hb); replace HK := zM (KeepBut.trans zB46 (KeepBut.of_below hb g none) (.inl rfl)); replace HB := zM (below_step zB45 hb); replace HI0 := zM (IsS102.below (show IsS102 w0 (((((w10.setCell ⟨gb501, 0, none⟩ (.int .i64 t498)).setCell ⟨gb501, 1, none⟩ (.int .i64 0)).setCell ⟨gb501, 2, none⟩ (.int .i64 0)).setCell ⟨gb501, 3, none⟩ (.int .i64 0)).setCell ⟨gb501, 4, none⟩ (.int .i64 0)) g s0_0 t499 t500 from zB64) hb); clear hb))
 (try simp only [Act.put, List.setIfInBounds_toArray, List.set_cons_zero, List.set_cons_succ])
 go_cut [] (fun wc => ∃ (kq : Nat) (x1001_3 : Int) (x1002_3 : Int) (x502001_3 : Int), Aside0 (spec_l8DrawIns.j0 kq t502 s0_0 x1001_3 x1002_3 t498 x502001_3 0 0 0 = some (r1, r2, r3, r4, r5, r6, r7)) ∧ Aside0 (kq ≤ k) ∧ Aside0 (wc.heap[gb494]? = some (.cells #[.int .i64 0, .int .i64 0, .int .i64 0, .int .i64 0, .int .i64 0] 59 (0, 0))) ∧ Aside0 (wc.heap[gb501]? = some (.cells #[.int .i64 t498, .int .i64 x502001_3, .int .i64 0, .int .i64 0, .int .i64 0] 59 (0, 0))) ∧ Aside0 (IsS102 w0 wc g s0_0 x1001_3 x1002_3) ∧ Aside0 (KeepBut w wc g none) ∧ Aside0 (Below w0.heap.size w0 wc))
 case first =>
  have H := HC4.1
  clear HC4
  by_cases c15 : (Go.bits .and .i64 t502 1) = 0
  ·rw [if_pos c15] at H
   have c15b0 : ((Go.bits .and .i64 t502 1) == 0) = true := beq_iff_eq.mpr c15
   have c15b1 : ((Go.bits .and .i64 t502 1) != 0) = false := bne_eq_false_iff_eq.mpr c15
   clear c15
   (first | rw [c15b0] | (simp only [i64_w, i32_w]; rw [c15b0]) | skip)
   have H' := zM H
   clear H
   go_wp2
   go_meet
   case rel => exact ⟨_, (t499), (t500), (0), H', ⟨by first | omega | exact Nat.le_refl _⟩, ⟨zK BK494.1⟩, ⟨zK BK501.1⟩, ⟨zB64⟩, ⟨zB46⟩, ⟨zB45⟩⟩
  rw [if_neg c15] at H
  have c15b0 : ((Go.bits .and .i64 t502 1) == 0) = false := beq_eq_false_iff_ne.mpr c15
  have c15b1 : ((Go.bits .and .i64 t502 1) != 0) = true := bne_iff_ne.mpr c15
  (first | rw [c15b0] | (simp only [i64_w, i32_w]; rw [c15b0]) | skip)
  replace H := zO H
  obtain ⟨⟨t503, t504, t505⟩, A16, H⟩ := H
  try dsimp only at H
  have H' := zM H
  clear H
  go_wp2_with (first | ((with_reducible refine zG Try.func67 16 #[.pointer (some ⟨g, 0, none⟩), .int .i64 4] ?_); (with_reducible refine (spec_l1Below.calls g s0_0 t499 t500 4 t503 t504 t505 w0 _ ?side1 ?side2 A16.1).mono ?_); (case side1 => exact zB64); (case side2 => exact zB45); rintro e w17 ⟨rfl, hi, hb, hk⟩; refine ⟨_, rfl, ?_⟩; replace BK494 := zM (zh hk BK494.1 NB494_0.1); replace HO497 := zM (Kd.R_mono (Kd.R_keep (IsS102.apart (show IsS102 w0 _ g s0_0 t499 t500 from zB64) (zR HO497.1) (by decide)) hk (fun _ h => h.2)) (fun _ h => h.1)); replace BK501 := zM (zh hk BK501.1 NB501_0.1); replace HK := zM (KeepBut.trans zB46 hk (.inl rfl)); replace HB := zM hb; replace HI0 := zM hi; clear hb hk hi; have hnb18 := NB501_494.1; have hnc18 := NB494_501.1; have hnb19 := NB501_0.1; have hnc19 := NB0_501.1; have hcz20 := zc_5 (w := w17) BK501.1))
  go_meet
  case rel => exact ⟨_, (t504), (t505), (t503), H', ⟨by first | omega | exact Nat.le_refl _⟩, ⟨by refine zP ?_; refine blk_far ?_ NB494_501.1 _; refine zP ?_; exact BK494.1⟩, ⟨by refine zP ?_; refine blk_put (cs := #[.int .i64 t498, .int .i64 0, .int .i64 0, .int .i64 0, .int .i64 0]) ?_ 1 _ rfl; refine zP ?_; exact BK501.1⟩, ⟨zB64⟩, ⟨zB46⟩, ⟨zB45⟩⟩
 case rest =>
  clear HC4
  obtain ⟨kq, x1001_3, x1002_3, x502001_3, HA, HJ3, BK494, BK501, HI0, HK, HB⟩ := hcut
  cases kq with
  | zero => exact absurd HA.1 (by simp [spec_l8DrawIns.j0])
  | succ kj3 =>
   have H := HA.1
   clear HA
   simp only [spec_l8DrawIns.j0] at H
   have HC21 := zM H
   clear H
   go_upto_if 20 with (fail)
   go_cut [] (fun wc => ∃ (kq : Nat) (x1001_20 : Int) (x1002_20 : Int) (x502002_20 : Int), Aside0 (spec_l8DrawIns.j1 kq t502 s0_0 x1001_20 x1002_20 t498 x502001_3 x502002_20 0 0 = some (r1, r2, r3, r4, r5, r6, r7)) ∧ Aside0 (kq ≤ kj3) ∧ Aside0 (wc.heap[gb494]? = some (.cells #[.int .i64 0, .int .i64 0, .int .i64 0, .int .i64 0, .int .i64 0] 59 (0, 0))) ∧ Aside0 (wc.heap[gb501]? = some (.cells #[.int .i64 t498, .int .i64 x502001_3, .int .i64 x502002_20, .int .i64 0, .int .i64 0] 59 (0, 0))) ∧ Aside0 (IsS102 w0 wc g s0_0 x1001_20 x1002_20) ∧ Aside0 (KeepBut w wc g none) ∧ Aside0 (Below w0.heap.size w0 wc))
   case first =>
    have H := HC21.1
    clear HC21
    by_cases c22 : (Go.bits .and .i64 t502 2) = 0
    ·rw [if_pos c22] at H
     have c22b0 : ((Go.bits .and .i64 t502 2) == 0) = true := beq_iff_eq.mpr c22
     have c22b1 : ((Go.bits .and .i64 t502 2) != 0) = false := bne_eq_false_iff_eq.mpr c22
     clear c22
     (first | rw [c22b0] | (simp only [i64_w, i32_w]; rw [c22b0]) | skip)
     have H' := zM H
     clear H
     go_wp2
     go_meet
     case rel => exact ⟨_, (x1001_3), (x1002_3), (0), H', ⟨by have := HJ3.1; first | omega | exact Nat.le_refl _⟩, ⟨zK BK494.1⟩, ⟨zK BK501.1⟩, ⟨zB64⟩, ⟨zB46⟩, ⟨zB45⟩⟩
    rw [if_neg c22] at H
    have c22b0 : ((Go.bits .and .i64 t502 2) == 0) = false := beq_eq_false_iff_ne.mpr c22
    have c22b1 : ((Go.bits .and .i64 t502 2) != 0) = true := bne_iff_ne.mpr c22
    (first | rw [c22b0] | (simp only [i64_w, i32_w]; rw [c22b0]) | skip)
    replace H := zO H
    obtain ⟨⟨t506, t507, t508⟩, A23, H⟩ := H
    try dsimp only at H
    have H' := zM H
    clear H
    go_wp2_with (first | ((with_reducible refine zG Try.func67 22 #[.pointer (some ⟨g, 0, none⟩), .int .i64 4] ?_); (with_reducible refine (spec_l1Below.calls g s0_0 x1001_3 x1002_3 4 t506 t507 t508 w0 _ ?side1 ?side2 A23.1).mono ?_); (case side1 => exact zB64); (case side2 => exact zB45); rintro e w24 ⟨rfl, hi, hb, hk⟩; refine ⟨_, rfl, ?_⟩; replace BK494 := zM (zh hk BK494.1 NB494_0.1); replace BK501 := zM (zh hk BK501.1 NB501_0.1); replace HK := zM (KeepBut.trans zB46 hk (.inl rfl)); replace HB := zM hb; replace HI0 := zM hi; clear hb hk hi; have hnb25 := NB501_494.1; have hnc25 := NB494_501.1; have hnb26 := NB501_0.1; have hnc26 := NB0_501.1; have hcz27 := zc_5 (w := w24) BK501.1))
    go_meet
    case rel => exact ⟨_, (t507), (t508), (t506), H', ⟨by have := HJ3.1; first | omega | exact Nat.le_refl _⟩, ⟨by refine zP ?_; refine blk_far ?_ NB494_501.1 _; refine zP ?_; exact BK494.1⟩, ⟨by refine zP ?_; refine blk_put (cs := #[.int .i64 t498, .int .i64 x502001_3, .int .i64 0, .int .i64 0, .int .i64 0]) ?_ 2 _ rfl; refine zP ?_; exact BK501.1⟩, ⟨zB64⟩, ⟨zB46⟩, ⟨zB45⟩⟩
   case rest =>
    clear HC21
    obtain ⟨kq, x1001_20, x1002_20, x502002_20, HA, HJ20, BK494, BK501, HI0, HK, HB⟩ := hcut
    cases kq with
    | zero => exact absurd HA.1 (by simp [spec_l8DrawIns.j1])
    | succ kj20 =>
     have H := HA.1
     clear HA
     simp only [spec_l8DrawIns.j1] at H
     by_cases c28 : (Go.bits .and .i64 t502 4) = 0
     ·rw [if_pos c28] at H
      have c28b0 : ((Go.bits .and .i64 t502 4) == 0) = true := beq_iff_eq.mpr c28
      have c28b1 : ((Go.bits .and .i64 t502 4) != 0) = false := bne_eq_false_iff_eq.mpr c28
      clear c28
      by_cases c29 : (Go.bits .and .i64 t502 8) = 0
      ·rw [if_pos c29] at H
       have c29b0 : ((Go.bits .and .i64 t502 8) == 0) = true := beq_iff_eq.mpr c29
       have c29b1 : ((Go.bits .and .i64 t502 8) != 0) = false := bne_eq_false_iff_eq.mpr c29
       clear c29
       simp only [Option.some.injEq, Prod.mk.injEq] at H
       obtain ⟨rfl, rfl, rfl, rfl, rfl, rfl, rfl⟩ := H
       have hnb30 := NB501_494.1
       have hnc30 := NB494_501.1
       have hnb31 := NB501_0.1
       have hnc31 := NB0_501.1
       have hcz32 := zc_5 (w := wc) BK501.1
       have hnb33 := NB494_0.1
       have hnc33 := NB0_494.1
       have hcz34 := zc_5 (w := wc) BK494.1
       go_wp2
       refine bodyPost_ret (results_cell_row rfl _ _ gb494 59 #[.int .i64 t498, .int .i64 x502001_3, .int .i64 x502002_20, .int .i64 0, .int .i64 0] (0, 0) _ rfl (by exact zp5 (zK BK494.1)) Try.underlying59 rfl (by kernel_rfl)) rfl ?_
       exact ⟨zE, zB64, zB45, zB46⟩
      rw [if_neg c29] at H
      have c29b0 : ((Go.bits .and .i64 t502 8) == 0) = false := beq_eq_false_iff_ne.mpr c29
      have c29b1 : ((Go.bits .and .i64 t502 8) != 0) = true := bne_iff_ne.mpr c29
      generalize hy509 : ((([0, 1, 2, 4, 8, 9, 12, 20, 23] : List Int)) : List Int) = y509 at H
      have Ny509 := zM hy509.symm
      clear hy509
      replace H := zO H
      obtain ⟨⟨t512, t513, t514⟩, A35, H⟩ := H
      try dsimp only at H
      simp only [Option.some.injEq, Prod.mk.injEq] at H
      obtain ⟨rfl, rfl, rfl, rfl, rfl, rfl, rfl⟩ := H
      go_wp2_with (first | ((with_reducible refine gate_dst (N := 34) rfl ?_); refine Kd.R_lit (Kd.int .i64) _ 3 ?hg (N := 34) ?hd (xs := ([0, 1, 2, 4, 8, 9, 12, 20, 23] : List Int)) (inner := [.int .i64 0, .int .i64 1, .int .i64 2, .int .i64 4, .int .i64 8, .int .i64 9, .int .i64 12, .int .i64 20, .int .i64 23]) (ok := fun _ => True) (okp := fun _ => True) ?hr ?hp (fun _ hk => hk) trivial (Below.refl _ _) (Nat.le_refl _) (by simp) ?_; (case hd => rfl); (case hg => rfl); (case hr => exact zHH); (case hp => exact (Reps.one (show Kd.M (Kd.int .i64) _ _ _ 0 [.int .i64 0] from rfl) (Reps.one (show Kd.M (Kd.int .i64) _ _ _ 1 [.int .i64 1] from rfl) (Reps.one (show Kd.M (Kd.int .i64) _ _ _ 2 [.int .i64 2] from rfl) (Reps.one (show Kd.M (Kd.int .i64) _ _ _ 4 [.int .i64 4] from rfl) (Reps.one (show Kd.M (Kd.int .i64) _ _ _ 8 [.int .i64 8] from rfl) (Reps.one (show Kd.M (Kd.int .i64) _ _ _ 9 [.int .i64 9] from rfl) (Reps.one (show Kd.M (Kd.int .i64) _ _ _ 12 [.int .i64 12] from rfl) (Reps.one (show Kd.M (Kd.int .i64) _ _ _ 20 [.int .i64 20] from rfl) (Reps.one (show Kd.M (Kd.int .i64) _ _ _ 23 [.int .i64 23] from rfl) (Reps.none _ _))))))))))); intro v510 w36 ho37 hb hg_ hnew_; clear hg_ hnew_; (first | rw [← Ny509.1] at ho37 | (simp only [Int.reduceToNat] at ho37; rw [← Ny509.1] at ho37)); have HO511 := zM (Kd.R_lower ho37 (keep_size (w := w) (g := g) (row := none) zB46)); replace BK494 := zM (zb BK494.1 hb); replace BK501 := zM (zb BK501.1 hb); replace HK := zM (KeepBut.trans zB46 (KeepBut.of_below hb g none) (.inl rfl)); replace HB := zM (below_step zB45 hb); replace HI0 := zM (IsS102.below zB64 hb); clear hb ho37; obtain ⟨Ao38, co38, eo38⟩ := Kd.R_slice HO511.1; subst eo38) | ((with_reducible refine zG Try.func66 35 #[.pointer (some ⟨g, 0, none⟩), .slice Ao38 y509.length co38] ?_); (with_reducible refine (spec_l1PickInt.calls g s0_0 x1001_20 x1002_20 _ _ y509 t512 t513 t514 w0 _ ?side1 ?side2 ?side3 ?side4 ?side5 A35.1).mono ?_); (case side1 => exact zB64); (case side2 => exact zB45); (case side3 => exact zC (Kd.R_reads' HO511.1).2.2); (case side4 => exact (Kd.R_reads' HO511.1).2.1); (case side5 => exact far_slice (IsS102.own_ne HI0.1 HO511.1 (by decide))); rintro e w39 ⟨rfl, hi, hb, hk⟩; refine ⟨_, rfl, ?_⟩; replace BK494 := zM (zh hk BK494.1 NB494_0.1); replace BK501 := zM (zh hk BK501.1 NB501_0.1); replace HO511 := zM (Kd.R_mono (Kd.R_keep (IsS102.apart (show IsS102 w0 _ g s0_0 x1001_20 x1002_20 from zB64) (zR HO511.1) (by decide)) hk (fun _ h => h.2)) (fun _ h => h.1)); replace HK := zM (KeepBut.trans zB46 hk (.inl rfl)); replace HB := zM hb; replace HI0 := zM hi; clear hb hk hi; have hnb40 := NB501_494.1; have hnc40 := NB494_501.1; have hnb41 := NB501_0.1; have hnc41 := NB0_501.1; have hcz42 := zc_5 (w := w39) BK501.1; have hnb43 := NB494_0.1; have hnc43 := NB0_494.1; have hcz44 := zc_5 (w := w39) BK494.1))
      refine bodyPost_ret (results_cell_row rfl _ _ gb494 59 #[.int .i64 t498, .int .i64 x502001_3, .int .i64 x502002_20, .int .i64 0, .int .i64 t512] (0, 0) _ rfl zPq Try.underlying59 rfl (by kernel_rfl)) rfl ?_
      exact ⟨zE, zB64, zB45, zB46⟩
     rw [if_neg c28] at H
     have c28b0 : ((Go.bits .and .i64 t502 4) == 0) = false := beq_eq_false_iff_ne.mpr c28
     have c28b1 : ((Go.bits .and .i64 t502 4) != 0) = true := bne_iff_ne.mpr c28
     replace H := zO H
     obtain ⟨⟨t515, t516, t517⟩, A45, H⟩ := H
     try dsimp only at H
     by_cases c46 : (Go.bits .and .i64 t502 8) = 0
     ·rw [if_pos c46] at H
      have c46b0 : ((Go.bits .and .i64 t502 8) == 0) = true := beq_iff_eq.mpr c46
      have c46b1 : ((Go.bits .and .i64 t502 8) != 0) = false := bne_eq_false_iff_eq.mpr c46
      clear c46
      simp only [Option.some.injEq, Prod.mk.injEq] at H
      obtain ⟨rfl, rfl, rfl, rfl, rfl, rfl, rfl⟩ := H
      go_wp2_with (first | ((with_reducible refine zG Try.func67 28 #[.pointer (some ⟨g, 0, none⟩), .int .i64 4] ?_); (with_reducible refine (spec_l1Below.calls g s0_0 x1001_20 x1002_20 4 t515 t516 t517 w0 _ ?side1 ?side2 A45.1).mono ?_); (case side1 => exact zB64); (case side2 => exact zB45); rintro e w47 ⟨rfl, hi, hb, hk⟩; refine ⟨_, rfl, ?_⟩; replace BK494 := zM (zh hk BK494.1 NB494_0.1); replace BK501 := zM (zh hk BK501.1 NB501_0.1); replace HK := zM (KeepBut.trans zB46 hk (.inl rfl)); replace HB := zM hb; replace HI0 := zM hi; clear hb hk hi; have hnb48 := NB501_494.1; have hnc48 := NB494_501.1; have hnb49 := NB501_0.1; have hnc49 := NB0_501.1; have hcz50 := zc_5 (w := w47) BK501.1; have hnb51 := NB494_0.1; have hnc51 := NB0_494.1; have hcz52 := zc_5 (w := w47) BK494.1))
      refine bodyPost_ret (results_cell_row rfl _ _ gb494 59 #[.int .i64 t498, .int .i64 x502001_3, .int .i64 x502002_20, .int .i64 t515, .int .i64 0] (0, 0) _ rfl zPq Try.underlying59 rfl (by kernel_rfl)) rfl ?_
      exact ⟨zE, zB64, zB45, zB46⟩
     rw [if_neg c46] at H
     have c46b0 : ((Go.bits .and .i64 t502 8) == 0) = false := beq_eq_false_iff_ne.mpr c46
     have c46b1 : ((Go.bits .and .i64 t502 8) != 0) = true := bne_iff_ne.mpr c46
     generalize hy518 : ((([0, 1, 2, 4, 8, 9, 12, 20, 23] : List Int)) : List Int) = y518 at H
     have Ny518 := zM hy518.symm
     clear hy518
     replace H := zO H
     obtain ⟨⟨t521, t522, t523⟩, A53, H⟩ := H
     try dsimp only at H
     simp only [Option.some.injEq, Prod.mk.injEq] at H
     obtain ⟨rfl, rfl, rfl, rfl, rfl, rfl, rfl⟩ := H
     go_wp2_with (first | ((with_reducible refine zG Try.func67 28 #[.pointer (some ⟨g, 0, none⟩), .int .i64 4] ?_); (with_reducible refine (spec_l1Below.calls g s0_0 x1001_20 x1002_20 4 t515 t516 t517 w0 _ ?side1 ?side2 A45.1).mono ?_); (case side1 => exact zB64); (case side2 => exact zB45); rintro e w54 ⟨rfl, hi, hb, hk⟩; refine ⟨_, rfl, ?_⟩; replace BK494 := zM (zh hk BK494.1 NB494_0.1); replace BK501 := zM (zh hk BK501.1 NB501_0.1); replace HK := zM (KeepBut.trans zB46 hk (.inl rfl)); replace HB := zM hb; replace HI0 := zM hi; clear hb hk hi; have hnb55 := NB501_494.1; have hnc55 := NB494_501.1; have hnb56 := NB501_0.1; have hnc56 := NB0_501.1; have hcz57 := zc_5 (w := w54) BK501.1) | ((with_reducible refine gate_dst (N := 34) rfl ?_); refine Kd.R_lit (Kd.int .i64) _ 3 ?hg (N := 34) ?hd (xs := ([0, 1, 2, 4, 8, 9, 12, 20, 23] : List Int)) (inner := [.int .i64 0, .int .i64 1, .int .i64 2, .int .i64 4, .int .i64 8, .int .i64 9, .int .i64 12, .int .i64 20, .int .i64 23]) (ok := fun _ => True) (okp := fun _ => True) ?hr ?hp (fun _ hk => hk) trivial (Below.refl _ _) (Nat.le_refl _) (by simp) ?_; (case hd => rfl); (case hg => rfl); (case hr => exact zHH); (case hp => exact (Reps.one (show Kd.M (Kd.int .i64) _ _ _ 0 [.int .i64 0] from rfl) (Reps.one (show Kd.M (Kd.int .i64) _ _ _ 1 [.int .i64 1] from rfl) (Reps.one (show Kd.M (Kd.int .i64) _ _ _ 2 [.int .i64 2] from rfl) (Reps.one (show Kd.M (Kd.int .i64) _ _ _ 4 [.int .i64 4] from rfl) (Reps.one (show Kd.M (Kd.int .i64) _ _ _ 8 [.int .i64 8] from rfl) (Reps.one (show Kd.M (Kd.int .i64) _ _ _ 9 [.int .i64 9] from rfl) (Reps.one (show Kd.M (Kd.int .i64) _ _ _ 12 [.int .i64 12] from rfl) (Reps.one (show Kd.M (Kd.int .i64) _ _ _ 20 [.int .i64 20] from rfl) (Reps.one (show Kd.M (Kd.int .i64) _ _ _ 23 [.int .i64 23] from rfl) (Reps.none _ _))))))))))); intro v519 w58 ho59 hb hg_ hnew_; clear hg_ hnew_; (first | rw [← Ny518.1] at ho59 | (simp only [Int.reduceToNat] at ho59; rw [← Ny518.1] at ho59)); have HO520 := zM (Kd.R_lower ho59 (keep_size (w := w) (g := g) (row := none) zB46)); replace BK494 := zM (zf BK494.1 hb); replace BK501 := zM (blk_below (g := gb501) (o := .cells #[.int .i64 t498, .int .i64 x502001_3, .int .i64 x502002_20, .int .i64 t515, .int .i64 0] 59 (0, 0)) zPq hb); replace HK := zM (KeepBut.trans zB46 (KeepBut.of_below hb g none) (.inl rfl)); replace HB := zM (below_step zB45 hb); replace HI0 := zM (IsS102.below (show IsS102 w0 (w54.setCell ⟨gb501, 3, none⟩ (.int .i64 t515)) g s0_0 t516 t517 from zB64) hb); clear hb ho59; obtain ⟨Ao60, co60, eo60⟩ := Kd.R_slice HO520.1; subst eo60) | ((with_reducible refine zG Try.func66 35 #[.pointer (some ⟨g, 0, none⟩), .slice Ao60 y518.length co60] ?_); (with_reducible refine (spec_l1PickInt.calls g s0_0 t516 t517 _ _ y518 t521 t522 t523 w0 _ ?side1 ?side2 ?side3 ?side4 ?side5 A53.1).mono ?_); (case side1 => exact zB64); (case side2 => exact zB45); (case side3 => exact zC (Kd.R_reads' HO520.1).2.2); (case side4 => exact (Kd.R_reads' HO520.1).2.1); (case side5 => exact far_slice (IsS102.own_ne HI0.1 HO520.1 (by decide))); rintro e w61 ⟨rfl, hi, hb, hk⟩; refine ⟨_, rfl, ?_⟩; replace BK494 := zM (zh hk BK494.1 NB494_0.1); replace BK501 := zM (zh hk BK501.1 NB501_0.1); replace HO520 := zM (Kd.R_mono (Kd.R_keep (IsS102.apart (show IsS102 w0 _ g s0_0 t516 t517 from zB64) (zR HO520.1) (by decide)) hk (fun _ h => h.2)) (fun _ h => h.1)); replace HK := zM (KeepBut.trans zB46 hk (.inl rfl)); replace HB := zM hb; replace HI0 := zM hi; clear hb hk hi; have hcz62 := zc_5 (w := w61) BK501.1; have hnb63 := NB494_0.1; have hnc63 := NB0_494.1; have hcz64 := zc_5 (w := w61) BK494.1))
     refine bodyPost_ret (results_cell_row rfl _ _ gb494 59 #[.int .i64 t498, .int .i64 x502001_3, .int .i64 x502002_20, .int .i64 t515, .int .i64 t521] (0, 0) _ rfl zPq Try.underlying59 rfl (by kernel_rfl)) rfl ?_
     exact ⟨zE, zB64, zB45, zB46⟩

/-! ### spec_l9DrawMem: function 111 -/
mutual
def spec_l9DrawMem.l0 : Nat → List Int → Int → List Int → Int → Int → Option (List Int × Int × Int)
 | 0, _, _, _, _, _ => none
 | k + 1, x3, x4, x1000, x1001, x1002 => if x4 < 24 then ((spec_l8DrawIns.f k x1000 x1001 x1002).bind fun bt527 => ((spec_Code.f bt527.1 bt527.2.1 bt527.2.2.1 bt527.2.2.2.1 bt527.2.2.2.2.1).bind fun bt534 => (if x4 > 15 then ((spec_l1PickInt.f x1000 bt527.2.2.2.2.2.1 bt527.2.2.2.2.2.2 (([0, 1, 5, 65535] : List Int))).bind fun bt539 => (if x3.length < 17592186044416 then (spec_l9DrawMem.l0 k (x3 ++ [bt539.1]) (wrap64 (x4 + 1)) x1000 bt539.2.1 bt539.2.2) else (none))) else ((spec_l1Once.f x1000 bt527.2.2.2.2.2.1 bt527.2.2.2.2.2.2 9).bind fun bt545 => (if bt545.1 = true then ((spec_l1PickInt.f x1000 bt545.2.1 bt545.2.2 (([0, 1, 5, 65535] : List Int))).bind fun bt551 => (if x3.length < 17592186044416 then (spec_l9DrawMem.l0 k (x3 ++ [bt551.1]) (wrap64 (x4 + 1)) x1000 bt551.2.1 bt551.2.2) else (none))) else (if x3.length < 17592186044416 then (spec_l9DrawMem.l0 k (x3 ++ [bt534.1]) (wrap64 (x4 + 1)) x1000 bt545.2.1 bt545.2.2) else (none))))))) else ((spec_l1Below.f x1000 x1001 x1002 4).bind fun bt560 => (if bt560.1 = 0 then (spec_l9DrawMem.l1 k x3 (([(⟨1, 1, 0, 0, 1⟩ : S59), (⟨6, 2, 0, 1, 20⟩ : S59), (⟨10, 3, 2, 1, 0⟩ : S59), (⟨8, 0, 0, 0, 1⟩ : S59)] : List (S59))) 0 x1000 bt560.2.1 bt560.2.2) else (if bt560.1 = 1 then (spec_l9DrawMem.l2 k x3 (([(⟨4, 1, 0, 0, 8⟩ : S59), (⟨3, 1, 1, 0, 1⟩ : S59), (⟨5, 0, 0, 1, 8⟩ : S59), (⟨8, 0, 0, 0, 8⟩ : S59)] : List (S59))) 0 x1000 bt560.2.1 bt560.2.2) else (some (x3, bt560.2.1, bt560.2.2)))))
def spec_l9DrawMem.l1 : Nat → List Int → List (S59) → Int → List Int → Int → Int → Option (List Int × Int × Int)
 | 0, _, _, _, _, _, _ => none
 | k + 1, x3, x7, x8, x1000, x1001, x1002 => if x8 < (x7.length : Int) then (if 0 ≤ x8 then ((spec_Code.f ((rd_T59 x7 x8).f0) ((rd_T59 x7 x8).f1) ((rd_T59 x7 x8).f2) ((rd_T59 x7 x8).f3) ((rd_T59 x7 x8).f4)).bind fun bt567 => (if x8 < (x3.length : Int) then (spec_l9DrawMem.l1 k (x3.set (x8 : Int).toNat bt567.1) x7 (wrap64 (x8 + 1)) x1000 x1001 x1002) else (none))) else (none)) else (some (x3, x1001, x1002))
def spec_l9DrawMem.l2 : Nat → List Int → List (S59) → Int → List Int → Int → Int → Option (List Int × Int × Int)
 | 0, _, _, _, _, _, _ => none
 | k + 1, x3, x9, x10, x1000, x1001, x1002 => if x10 < (x9.length : Int) then (if 0 ≤ x10 then ((spec_Code.f ((rd_T59 x9 x10).f0) ((rd_T59 x9 x10).f1) ((rd_T59 x9 x10).f2) ((rd_T59 x9 x10).f3) ((rd_T59 x9 x10).f4)).bind fun bt574 => (if x10 < (x3.length : Int) then (spec_l9DrawMem.l2 k (x3.set (x10 : Int).toNat bt574.1) x9 (wrap64 (x10 + 1)) x1000 x1001 x1002) else (none))) else (none)) else (some (x3, x1001, x1002))
end
def spec_l9DrawMem.f (k : Nat) (s0_0 : List Int) (s0_1 : Int) (s0_2 : Int) : Option (List Int × Int × Int) := spec_l9DrawMem.l0 k (([] : List Int)) 0 s0_0 s0_1 s0_2
theorem spec_l9DrawMem.mono_l : ∀ k, (∀ y0 y1 y2 y3 y4, LeO (spec_l9DrawMem.l0 k y0 y1 y2 y3 y4) (spec_l9DrawMem.l0 (k + 1) y0 y1 y2 y3 y4)) ∧ (∀ y0 y1 y2 y3 y4 y5, LeO (spec_l9DrawMem.l1 k y0 y1 y2 y3 y4 y5) (spec_l9DrawMem.l1 (k + 1) y0 y1 y2 y3 y4 y5)) ∧ (∀ y0 y1 y2 y3 y4 y5, LeO (spec_l9DrawMem.l2 k y0 y1 y2 y3 y4 y5) (spec_l9DrawMem.l2 (k + 1) y0 y1 y2 y3 y4 y5))
 | 0 => ⟨fun _ _ _ _ _ r h => by simp [spec_l9DrawMem.l0] at h, fun _ _ _ _ _ _ r h => by simp [spec_l9DrawMem.l1] at h, fun _ _ _ _ _ _ r h => by simp [spec_l9DrawMem.l2] at h⟩
 | k + 1 => by
  obtain ⟨ih0, ih1, ih2⟩ := spec_l9DrawMem.mono_l k
  refine ⟨?_, ?_, ?_⟩
  ·intros
   unfold spec_l9DrawMem.l0
   have mo0 := @spec_l8DrawIns.mono
   exact zL
  ·intros
   unfold spec_l9DrawMem.l1
   have mo0 := @spec_l8DrawIns.mono
   exact zL
  ·intros
   unfold spec_l9DrawMem.l2
   have mo0 := @spec_l8DrawIns.mono
   exact zL
theorem spec_l9DrawMem.mono : ∀ a0 a1 a2 k, LeO (spec_l9DrawMem.f k a0 a1 a2) (spec_l9DrawMem.f (k + 1) a0 a1 a2) := by
 intro a0 a1 a2 k
 obtain ⟨ih0, ih1, ih2⟩ := spec_l9DrawMem.mono_l k
 unfold spec_l9DrawMem.f
 have mo0 := @spec_l8DrawIns.mono
 exact zL
theorem spec_l9DrawMem.calls (k : Nat) (g : Nat) (s0_0 : List Int) (s0_1 : Int) (s0_2 : Int) (r1 : List Int) (r2 : Int) (r3 : Int) (w0 w : World) (hI : IsS102 w0 w g s0_0 s0_1 s0_2) (hB : Below w0.heap.size w0 w) (h : spec_l9DrawMem.f k s0_0 s0_1 s0_2 = some (r1, r2, r3)) :
  Calls Try.prog 111 #[.pointer (some ⟨g, 0, none⟩)] w fun e w' => ∃ v0_ : Value, e = .returned (v0_) ∧ Kd.R (Kd.int .i64) 3 w' w.heap.size (fun _ => True) v0_ r1 ∧ IsS102 w0 w' g s0_0 r2 r3 ∧ Below w0.heap.size w0 w' ∧ KeepBut w w' g none := by
 have hu59 := Try.underlying59
 have HI0 := zM hI
 have HK := zM (KeepBut.refl w g none)
 have HL := zM hB.size
 clear hI
 have HW0 := zM hB.size
 have HB := zM hB
 clear hB
 unfold spec_l9DrawMem.f at h
 have H := h
 clear h
 generalize hy524 : ((([] : List Int)) : List Int) = y524 at H
 have Ny524 := zM hy524.symm
 clear hy524
 have H' := zM H
 clear H
 go_enter Try.func111, Try.ntmps111
 go_wp2_with (first | ((with_reducible refine gate_dst (N := 11) rfl ?_); refine Kd.R_lit (Kd.int .i64) _ 3 ?hg (N := 11) ?hd (xs := ([] : List Int)) (inner := []) (ok := fun _ => True) (okp := fun _ => True) ?hr ?hp (fun _ hk => hk) trivial (Below.refl _ _) (Nat.le_refl _) (by simp) ?_; (case hd => rfl); (case hg => rfl); (case hr => exact zHH); (case hp => exact (Reps.none _ _)); intro v525 w2 ho3 hb hg_ hnew_; clear hg_ hnew_; (first | rw [← Ny524.1] at ho3 | (simp only [Int.reduceToNat] at ho3; rw [← Ny524.1] at ho3)); have HO526 := zM (Kd.R_lower ho3 (keep_size (w := w) (g := g) (row := none) zB46)); replace HK := zM (KeepBut.trans zB46 (KeepBut.of_below hb g none) (.inl rfl)); replace HB := zM (below_step zB45 hb); replace HI0 := zM (IsS102.below zB44 hb); clear hb ho3))
 go_loopg [3, 4] k (fun kq v3 v4 w' => ∃ (x3_1 : List Int) (x4_1 : Int) (x1001_1 : Int) (x1002_1 : Int), v4 = .int .i64 x4_1 ∧ Aside0 (spec_l9DrawMem.l0 kq x3_1 x4_1 s0_0 x1001_1 x1002_1 = some (r1, r2, r3)) ∧ Aside0 (kq ≤ k) ∧ Aside0 (Kd.R (Kd.int .i64) 3 w' w.heap.size (fun _ => True) v3 x3_1) ∧ Aside0 (IsS102 w0 w' g s0_0 x1001_1 x1002_1) ∧ Aside0 (KeepBut w w' g none) ∧ Aside0 (Below w0.heap.size w0 w'))
 case atStart => exact ⟨(y524), (0), (s0_1), (s0_2), zJJ, H', ⟨Nat.le_refl _⟩, ⟨zR HO526.1⟩, ⟨zB44⟩, ⟨zB46⟩, ⟨zB45⟩⟩
 case round =>
  clear H'
  obtain ⟨x3_1, x4_1, x1001_1, x1002_1, rfl, HA, HK1, HO_3, HI0, HK, HB⟩ := hrel
  cases gk with
  | zero => exact absurd HA.1 (by simp [spec_l9DrawMem.l0])
  | succ k1 =>
   have H := HA.1
   clear HA
   simp only [spec_l9DrawMem.l0] at H
   by_cases c4 : x4_1 < 24
   ·rw [if_pos c4] at H
    have c4b0 := decide_eq_true c4
    clear c4
    replace H := zO H
    obtain ⟨⟨t527, t528, t529, t530, t531, t532, t533⟩, A5, H⟩ := H
    try dsimp only at H
    replace H := zO H
    obtain ⟨⟨t534, t535⟩, A6, H⟩ := H
    try dsimp only at H
    by_cases c7 : x4_1 > 15
    ·rw [if_pos c7] at H
     have c7b0 := decide_eq_true c7
     clear c7
     generalize hy536 : ((([0, 1, 5, 65535] : List Int)) : List Int) = y536 at H
     have Ny536 := zM hy536.symm
     clear hy536
     replace H := zO H
     obtain ⟨⟨t539, t540, t541⟩, A8, H⟩ := H
     try dsimp only at H
     replace H := zIn H
     obtain ⟨LMc9, H⟩ := H
     generalize hy542 : ((x3_1 ++ [t539]) : List Int) = y542 at H
     have Ny542 := zM hy542.symm
     clear hy542
     have H' := zM H
     clear H
     go_wp2_with (first | ((with_reducible refine zG Try.func129 18 #[.pointer (some ⟨g, 0, none⟩)] ?_); (with_reducible refine (spec_l8DrawIns.calls k1 g s0_0 x1001_1 x1002_1 t527 t528 t529 t530 t531 t532 t533 w0 _ ?side1 ?side2 A5.1).mono ?_); (case side1 => exact zB44); (case side2 => exact zB45); rintro e w10 ⟨rfl, hi, hb, hk⟩; refine ⟨_, rfl, ?_⟩; replace HO_3 := zM (Kd.R_mono (Kd.R_keep (IsS102.apart (show IsS102 w0 _ g s0_0 x1001_1 x1002_1 from zB44) (zR HO_3.1) (by decide)) hk (fun _ h => h.2)) (fun _ h => h.1)); replace HK := zM (KeepBut.trans zB46 hk (.inl rfl)); replace HB := zM hb; replace HI0 := zM hi; clear hb hk hi) | ((with_reducible refine zG Try.func128 19 #[.agg #[.int .i64 t527, .int .i64 t528, .int .i64 t529, .int .i64 t530, .int .i64 t531]] ?_); (with_reducible refine (spec_Code.calls t527 t528 t529 t530 t531 t534 t535 _ A6.1).mono ?_); rintro e w11 ⟨rfl, hb⟩; refine ⟨_, rfl, ?_⟩; replace HO_3 := zM (Kd.R_below (zR HO_3.1) hb); replace HK := zM (KeepBut.trans zB46 (KeepBut.of_below hb g none) (.inl rfl)); replace HB := zM (below_step zB45 hb); replace HI0 := zM (IsS102.below zB44 hb); clear hb) | ((with_reducible refine gate_dst (N := 29) rfl ?_); refine Kd.R_lit (Kd.int .i64) _ 3 ?hg (N := 29) ?hd (xs := ([0, 1, 5, 65535] : List Int)) (inner := [.int .i64 0, .int .i64 1, .int .i64 5, .int .i64 65535]) (ok := fun _ => True) (okp := fun _ => True) ?hr ?hp (fun _ hk => hk) trivial (Below.refl _ _) (Nat.le_refl _) (by simp) ?_; (case hd => rfl); (case hg => rfl); (case hr => exact zHH); (case hp => exact (Reps.one (show Kd.M (Kd.int .i64) _ _ _ 0 [.int .i64 0] from rfl) (Reps.one (show Kd.M (Kd.int .i64) _ _ _ 1 [.int .i64 1] from rfl) (Reps.one (show Kd.M (Kd.int .i64) _ _ _ 5 [.int .i64 5] from rfl) (Reps.one (show Kd.M (Kd.int .i64) _ _ _ 65535 [.int .i64 65535] from rfl) (Reps.none _ _)))))); intro v537 w12 ho13 hb hg_ hnew_; clear hg_ hnew_; (first | rw [← Ny536.1] at ho13 | (simp only [Int.reduceToNat] at ho13; rw [← Ny536.1] at ho13)); have HO538 := zM (Kd.R_lower (Kd.R_new' ho13 (Kd.R_lt (zR HO_3.1))) (keep_size (w := w) (g := g) (row := none) zB46)); replace HO_3 := zM (Kd.R_elder' (zR HO_3.1) (Kd.R_base ho13) hb); replace HK := zM (KeepBut.trans zB46 (KeepBut.of_below hb g none) (.inl rfl)); replace HB := zM (below_step zB45 hb); replace HI0 := zM (IsS102.below zB44 hb); clear hb ho13; obtain ⟨Ao14, co14, eo14⟩ := Kd.R_slice HO538.1; subst eo14) | ((with_reducible refine zG Try.func66 30 #[.pointer (some ⟨g, 0, none⟩), .slice Ao14 y536.length co14] ?_); (with_reducible refine (spec_l1PickInt.calls g s0_0 t532 t533 _ _ y536 t539 t540 t541 w0 _ ?side1 ?side2 ?side3 ?side4 ?side5 A8.1).mono ?_); (case side1 => exact zB44); (case side2 => exact zB45); (case side3 => exact zC (Kd.R_reads' HO538.1).2.2); (case side4 => exact (Kd.R_reads' HO538.1).2.1); (case side5 => exact far_slice (IsS102.own_ne HI0.1 HO538.1 (by decide))); rintro e w15 ⟨rfl, hi, hb, hk⟩; refine ⟨_, rfl, ?_⟩; replace HO_3 := zM (Kd.R_mono (Kd.R_keep (IsS102.apart (show IsS102 w0 _ g s0_0 t532 t533 from zB44) (zR HO_3.1) (by decide)) hk (fun _ h => h.2)) (fun _ h => h.1)); replace HO538 := zM (Kd.R_mono (Kd.R_keep (IsS102.apart (show IsS102 w0 _ g s0_0 t532 t533 from zB44) (zR HO538.1) (by decide)) hk (fun _ h => h.2)) (fun _ h => h.1)); replace HK := zM (KeepBut.trans zB46 hk (.inl rfl)); replace HB := zM hb; replace HI0 := zM hi; clear hb hk hi) | ((with_reducible refine gate_builtin (b := .append) (xs := #[.tmp 31, .tmp 33]) rfl ?_); at_builtin; refine Kd.R_append (Kd.int .i64) w.heap.size rfl (.tmp 31) (.tmp 33) 24 3 (.int .i64 0) 8 rfl Try.underlying24 info3 rfl (by decide) (by omega) u3 x3_1 t539 [.int .i64 t539] (fun k_ => some k_ ≠ (.slice Ao14 y536.length co14 : Value).ownBlock) (fun _ => False) rfl rfl ?aP (fun _ hk => hk.elim) ?aF ?aO (Below.refl _ _) ?aS ?aL ?_; (case aP => exact rfl); (case aF => exact (fun k_ hk => Kd.fresh' (Kd.R_lt (zR HO538.1)) k_ hk)); (case aO => exact (by refine zrR ?_; exact Kd.R_mono HO_3.1 (fun _ hk => hk.2))); (case aS => exact (keep_size (w := w) (g := g) (row := none) zB46)); (case aL => have := LMc9.out; omega); intro v543 w16 ho hb hg hat; rw [← Ny542.1] at ho; replace HO538 := zM (Kd.R_after (ok := (fun _ => True)) (zR HO538.1) hg hat); replace HB := zM (below_weaken zB45 HL.1 hb); replace HI0 := zM (IsS102.grown (show IsS102 w0 _ g s0_0 t540 t541 from zB44) hg (IsS102.own_ne HI0.1 HO_3.1 (by decide))); replace HK := zM (KeepBut.trans zB46 (KeepBut.of_grown hg g) (Kd.R_base2 HO_3.1)); have HO544 := zM ho; clear HO_3; clear ho hb hg hat))
     go_roundg k1
     case measure => have := HK1.1; omega
     case rel => exact ⟨(y542), (wrap64 (x4_1 + 1)), (t540), (t541), zJJ, H', ⟨by have := HK1.1; omega⟩, ⟨by refine zrR ?_; exact Kd.R_mono HO544.1 (fun _ hk => trivial)⟩, ⟨zB44⟩, ⟨zB46⟩, ⟨zB45⟩⟩
    rw [if_neg c7] at H
    have c7b0 := decide_eq_false c7
    clear c7
    replace H := zO H
    obtain ⟨⟨t545, t546, t547⟩, A17, H⟩ := H
    try dsimp only at H
    by_cases c18 : t545 = true
    rotate_left
    ·replace c18 := Bool.eq_false_iff.mpr c18
     subst c18
     rw [if_neg zF] at H
     replace H := zIn H
     obtain ⟨LMc29, H⟩ := H
     generalize hy557 : ((x3_1 ++ [t534]) : List Int) = y557 at H
     have Ny557 := zM hy557.symm
     clear hy557
     have H' := zM H
     clear H
     go_wp2_with (first | ((with_reducible refine zG Try.func129 18 #[.pointer (some ⟨g, 0, none⟩)] ?_); (with_reducible refine (spec_l8DrawIns.calls k1 g s0_0 x1001_1 x1002_1 t527 t528 t529 t530 t531 t532 t533 w0 _ ?side1 ?side2 A5.1).mono ?_); (case side1 => exact zB44); (case side2 => exact zB45); rintro e w30 ⟨rfl, hi, hb, hk⟩; refine ⟨_, rfl, ?_⟩; replace HO_3 := zM (Kd.R_mono (Kd.R_keep (IsS102.apart (show IsS102 w0 _ g s0_0 x1001_1 x1002_1 from zB44) (zR HO_3.1) (by decide)) hk (fun _ h => h.2)) (fun _ h => h.1)); replace HK := zM (KeepBut.trans zB46 hk (.inl rfl)); replace HB := zM hb; replace HI0 := zM hi; clear hb hk hi) | ((with_reducible refine zG Try.func128 19 #[.agg #[.int .i64 t527, .int .i64 t528, .int .i64 t529, .int .i64 t530, .int .i64 t531]] ?_); (with_reducible refine (spec_Code.calls t527 t528 t529 t530 t531 t534 t535 _ A6.1).mono ?_); rintro e w31 ⟨rfl, hb⟩; refine ⟨_, rfl, ?_⟩; replace HO_3 := zM (Kd.R_below (zR HO_3.1) hb); replace HK := zM (KeepBut.trans zB46 (KeepBut.of_below hb g none) (.inl rfl)); replace HB := zM (below_step zB45 hb); replace HI0 := zM (IsS102.below zB44 hb); clear hb) | (go_at_call 68; (with_reducible refine (spec_l1Once.calls g s0_0 t532 t533 9 false t546 t547 w0 _ ?side1 ?side2 A17.1).mono ?_); (case side1 => exact zB44); (case side2 => exact zB45); rintro e w32 ⟨rfl, hi, hb, hk⟩; replace HO_3 := zM (Kd.R_mono (Kd.R_keep (IsS102.apart (show IsS102 w0 _ g s0_0 t532 t533 from zB44) (zR HO_3.1) (by decide)) hk (fun _ h => h.2)) (fun _ h => h.1)); replace HK := zM (KeepBut.trans zB46 hk (.inl rfl)); replace HB := zM hb; replace HI0 := zM hi; clear hb hk hi) | ((with_reducible refine gate_builtin (b := .append) (xs := #[.tmp 31, .tmp 33]) rfl ?_); at_builtin; refine Kd.R_append (Kd.int .i64) w.heap.size rfl (.tmp 31) (.tmp 33) 24 3 (.int .i64 0) 8 rfl Try.underlying24 info3 rfl (by decide) (by omega) u3 x3_1 t534 [.int .i64 t534] (fun _ => True) (fun _ => False) rfl rfl ?aP (fun _ hk => hk.elim) ?aF ?aO (Below.refl _ _) ?aS ?aL ?_; (case aP => exact rfl); (case aF => exact (fun _ _ => trivial)); (case aO => exact (zR HO_3.1)); (case aS => exact (keep_size (w := w) (g := g) (row := none) zB46)); (case aL => have := LMc29.out; omega); intro v558 w33 ho hb hg hat; rw [← Ny557.1] at ho; replace HB := zM (below_weaken zB45 HL.1 hb); replace HI0 := zM (IsS102.grown (show IsS102 w0 _ g s0_0 t546 t547 from zB44) hg (IsS102.own_ne HI0.1 HO_3.1 (by decide))); replace HK := zM (KeepBut.trans zB46 (KeepBut.of_grown hg g) (Kd.R_base2 HO_3.1)); have HO559 := zM ho; clear HO_3; clear ho hb hg hat))
     go_roundg k1
     case measure => have := HK1.1; omega
     case rel => exact ⟨(y557), (wrap64 (x4_1 + 1)), (t546), (t547), zJJ, H', ⟨by have := HK1.1; omega⟩, ⟨zR HO559.1⟩, ⟨zB44⟩, ⟨zB46⟩, ⟨zB45⟩⟩
    subst c18
    rw [if_pos rfl] at H
    generalize hy548 : ((([0, 1, 5, 65535] : List Int)) : List Int) = y548 at H
    have Ny548 := zM hy548.symm
    clear hy548
    replace H := zO H
    obtain ⟨⟨t551, t552, t553⟩, A19, H⟩ := H
    try dsimp only at H
    replace H := zIn H
    obtain ⟨LMc20, H⟩ := H
    generalize hy554 : ((x3_1 ++ [t551]) : List Int) = y554 at H
    have Ny554 := zM hy554.symm
    clear hy554
    have H' := zM H
    clear H
    go_wp2_with (first | ((with_reducible refine zG Try.func129 18 #[.pointer (some ⟨g, 0, none⟩)] ?_); (with_reducible refine (spec_l8DrawIns.calls k1 g s0_0 x1001_1 x1002_1 t527 t528 t529 t530 t531 t532 t533 w0 _ ?side1 ?side2 A5.1).mono ?_); (case side1 => exact zB44); (case side2 => exact zB45); rintro e w21 ⟨rfl, hi, hb, hk⟩; refine ⟨_, rfl, ?_⟩; replace HO_3 := zM (Kd.R_mono (Kd.R_keep (IsS102.apart (show IsS102 w0 _ g s0_0 x1001_1 x1002_1 from zB44) (zR HO_3.1) (by decide)) hk (fun _ h => h.2)) (fun _ h => h.1)); replace HK := zM (KeepBut.trans zB46 hk (.inl rfl)); replace HB := zM hb; replace HI0 := zM hi; clear hb hk hi) | ((with_reducible refine zG Try.func128 19 #[.agg #[.int .i64 t527, .int .i64 t528, .int .i64 t529, .int .i64 t530, .int .i64 t531]] ?_); (with_reducible refine (spec_Code.calls t527 t528 t529 t530 t531 t534 t535 _ A6.1).mono ?_); rintro e w22 ⟨rfl, hb⟩; refine ⟨_, rfl, ?_⟩; replace HO_3 := zM (Kd.R_below (zR HO_3.1) hb); replace HK := zM (KeepBut.trans zB46 (KeepBut.of_below hb g none) (.inl rfl)); replace HB := zM (below_step zB45 hb); replace HI0 := zM (IsS102.below zB44 hb); clear hb) | (go_at_call 68; (with_reducible refine (spec_l1Once.calls g s0_0 t532 t533 9 true t546 t547 w0 _ ?side1 ?side2 A17.1).mono ?_); (case side1 => exact zB44); (case side2 => exact zB45); rintro e w23 ⟨rfl, hi, hb, hk⟩; replace HO_3 := zM (Kd.R_mono (Kd.R_keep (IsS102.apart (show IsS102 w0 _ g s0_0 t532 t533 from zB44) (zR HO_3.1) (by decide)) hk (fun _ h => h.2)) (fun _ h => h.1)); replace HK := zM (KeepBut.trans zB46 hk (.inl rfl)); replace HB := zM hb; replace HI0 := zM hi; clear hb hk hi) | ((with_reducible refine gate_dst (N := 29) rfl ?_); refine Kd.R_lit (Kd.int .i64) _ 3 ?hg (N := 29) ?hd (xs := ([0, 1, 5, 65535] : List Int)) (inner := [.int .i64 0, .int .i64 1, .int .i64 5, .int .i64 65535]) (ok := fun _ => True) (okp := fun _ => True) ?hr ?hp (fun _ hk => hk) trivial (Below.refl _ _) (Nat.le_refl _) (by simp) ?_; (case hd => rfl); (case hg => rfl); (case hr => exact zHH); (case hp => exact (Reps.one (show Kd.M (Kd.int .i64) _ _ _ 0 [.int .i64 0] from rfl) (Reps.one (show Kd.M (Kd.int .i64) _ _ _ 1 [.int .i64 1] from rfl) (Reps.one (show Kd.M (Kd.int .i64) _ _ _ 5 [.int .i64 5] from rfl) (Reps.one (show Kd.M (Kd.int .i64) _ _ _ 65535 [.int .i64 65535] from rfl) (Reps.none _ _)))))); intro v549 w24 ho25 hb hg_ hnew_; clear hg_ hnew_; (first | rw [← Ny548.1] at ho25 | (simp only [Int.reduceToNat] at ho25; rw [← Ny548.1] at ho25)); have HO550 := zM (Kd.R_lower (Kd.R_new' ho25 (Kd.R_lt (zR HO_3.1))) (keep_size (w := w) (g := g) (row := none) zB46)); replace HO_3 := zM (Kd.R_elder' (zR HO_3.1) (Kd.R_base ho25) hb); replace HK := zM (KeepBut.trans zB46 (KeepBut.of_below hb g none) (.inl rfl)); replace HB := zM (below_step zB45 hb); replace HI0 := zM (IsS102.below zB44 hb); clear hb ho25; obtain ⟨Ao26, co26, eo26⟩ := Kd.R_slice HO550.1; subst eo26) | ((with_reducible refine zG Try.func66 30 #[.pointer (some ⟨g, 0, none⟩), .slice Ao26 y548.length co26] ?_); (with_reducible refine (spec_l1PickInt.calls g s0_0 t546 t547 _ _ y548 t551 t552 t553 w0 _ ?side1 ?side2 ?side3 ?side4 ?side5 A19.1).mono ?_); (case side1 => exact zB44); (case side2 => exact zB45); (case side3 => exact zC (Kd.R_reads' HO550.1).2.2); (case side4 => exact (Kd.R_reads' HO550.1).2.1); (case side5 => exact far_slice (IsS102.own_ne HI0.1 HO550.1 (by decide))); rintro e w27 ⟨rfl, hi, hb, hk⟩; refine ⟨_, rfl, ?_⟩; replace HO_3 := zM (Kd.R_mono (Kd.R_keep (IsS102.apart (show IsS102 w0 _ g s0_0 t546 t547 from zB44) (zR HO_3.1) (by decide)) hk (fun _ h => h.2)) (fun _ h => h.1)); replace HO550 := zM (Kd.R_mono (Kd.R_keep (IsS102.apart (show IsS102 w0 _ g s0_0 t546 t547 from zB44) (zR HO550.1) (by decide)) hk (fun _ h => h.2)) (fun _ h => h.1)); replace HK := zM (KeepBut.trans zB46 hk (.inl rfl)); replace HB := zM hb; replace HI0 := zM hi; clear hb hk hi) | ((with_reducible refine gate_builtin (b := .append) (xs := #[.tmp 31, .tmp 33]) rfl ?_); at_builtin; refine Kd.R_append (Kd.int .i64) w.heap.size rfl (.tmp 31) (.tmp 33) 24 3 (.int .i64 0) 8 rfl Try.underlying24 info3 rfl (by decide) (by omega) u3 x3_1 t551 [.int .i64 t551] (fun k_ => some k_ ≠ (.slice Ao26 y548.length co26 : Value).ownBlock) (fun _ => False) rfl rfl ?aP (fun _ hk => hk.elim) ?aF ?aO (Below.refl _ _) ?aS ?aL ?_; (case aP => exact rfl); (case aF => exact (fun k_ hk => Kd.fresh' (Kd.R_lt (zR HO550.1)) k_ hk)); (case aO => exact (by refine zrR ?_; exact Kd.R_mono HO_3.1 (fun _ hk => hk.2))); (case aS => exact (keep_size (w := w) (g := g) (row := none) zB46)); (case aL => have := LMc20.out; omega); intro v555 w28 ho hb hg hat; rw [← Ny554.1] at ho; replace HO550 := zM (Kd.R_after (ok := (fun _ => True)) (zR HO550.1) hg hat); replace HB := zM (below_weaken zB45 HL.1 hb); replace HI0 := zM (IsS102.grown (show IsS102 w0 _ g s0_0 t552 t553 from zB44) hg (IsS102.own_ne HI0.1 HO_3.1 (by decide))); replace HK := zM (KeepBut.trans zB46 (KeepBut.of_grown hg g) (Kd.R_base2 HO_3.1)); have HO556 := zM ho; clear HO_3; clear ho hb hg hat))
    go_roundg k1
    case measure => have := HK1.1; omega
    case rel => exact ⟨(y554), (wrap64 (x4_1 + 1)), (t552), (t553), zJJ, H', ⟨by have := HK1.1; omega⟩, ⟨by refine zrR ?_; exact Kd.R_mono HO556.1 (fun _ hk => trivial)⟩, ⟨zB44⟩, ⟨zB46⟩, ⟨zB45⟩⟩
   rw [if_neg c4] at H
   have c4b0 := decide_eq_false c4
   clear c4
   replace H := zO H
   obtain ⟨⟨t560, t561, t562⟩, A34, H⟩ := H
   try dsimp only at H
   by_cases c35 : t560 = 0
   ·rw [if_pos c35] at H
    have c35b0 : (t560 == 0) = true := beq_iff_eq.mpr c35
    have c35b1 : (t560 != 0) = false := bne_eq_false_iff_eq.mpr c35
    clear c35
    generalize hy563 : ((([(⟨1, 1, 0, 0, 1⟩ : S59), (⟨6, 2, 0, 1, 20⟩ : S59), (⟨10, 3, 2, 1, 0⟩ : S59), (⟨8, 0, 0, 0, 1⟩ : S59)] : List (S59))) : List (S59)) = y563 at H
    have Ny563 := zM hy563.symm
    clear hy563
    have H' := zM H
    clear H
    go_wp2_with (first | ((with_reducible refine zG Try.func67 36 #[.pointer (some ⟨g, 0, none⟩), .int .i64 4] ?_); (with_reducible refine (spec_l1Below.calls g s0_0 x1001_1 x1002_1 4 t560 t561 t562 w0 _ ?side1 ?side2 A34.1).mono ?_); (case side1 => exact zB44); (case side2 => exact zB45); rintro e w36 ⟨rfl, hi, hb, hk⟩; refine ⟨_, rfl, ?_⟩; replace HO_3 := zM (Kd.R_mono (Kd.R_keep (IsS102.apart (show IsS102 w0 _ g s0_0 x1001_1 x1002_1 from zB44) (zR HO_3.1) (by decide)) hk (fun _ h => h.2)) (fun _ h => h.1)); replace HK := zM (KeepBut.trans zB46 hk (.inl rfl)); replace HB := zM hb; replace HI0 := zM hi; clear hb hk hi) | ((with_reducible refine gate_dst (N := 43) rfl ?_); refine Kd.R_lit k59 _ 59 ?hg (N := 43) ?hd (xs := ([(⟨1, 1, 0, 0, 1⟩ : S59), (⟨6, 2, 0, 1, 20⟩ : S59), (⟨10, 3, 2, 1, 0⟩ : S59), (⟨8, 0, 0, 0, 1⟩ : S59)] : List (S59))) (inner := [.int .i64 1, .int .i64 1, .int .i64 0, .int .i64 0, .int .i64 1, .int .i64 6, .int .i64 2, .int .i64 0, .int .i64 1, .int .i64 20, .int .i64 10, .int .i64 3, .int .i64 2, .int .i64 1, .int .i64 0, .int .i64 8, .int .i64 0, .int .i64 0, .int .i64 0, .int .i64 1]) (ok := fun _ => True) (okp := fun _ => True) ?hr ?hp (fun _ hk => hk) trivial (Below.refl _ _) (Nat.le_refl _) (by simp) ?_; (case hd => rfl); (case hg => rfl); (case hr => exact zHH); (case hp => exact (Reps.c5 (show Kd.M k59 _ _ _ (⟨1, 1, 0, 0, 1⟩ : S59) [.int .i64 1, .int .i64 1, .int .i64 0, .int .i64 0, .int .i64 1] from (k59_mkM _ _ _ (⟨1, 1, 0, 0, 1⟩ : S59) )) (Reps.c5 (show Kd.M k59 _ _ _ (⟨6, 2, 0, 1, 20⟩ : S59) [.int .i64 6, .int .i64 2, .int .i64 0, .int .i64 1, .int .i64 20] from (k59_mkM _ _ _ (⟨6, 2, 0, 1, 20⟩ : S59) )) (Reps.c5 (show Kd.M k59 _ _ _ (⟨10, 3, 2, 1, 0⟩ : S59) [.int .i64 10, .int .i64 3, .int .i64 2, .int .i64 1, .int .i64 0] from (k59_mkM _ _ _ (⟨10, 3, 2, 1, 0⟩ : S59) )) (Reps.c5 (show Kd.M k59 _ _ _ (⟨8, 0, 0, 0, 1⟩ : S59) [.int .i64 8, .int .i64 0, .int .i64 0, .int .i64 0, .int .i64 1] from (k59_mkM _ _ _ (⟨8, 0, 0, 0, 1⟩ : S59) )) (Reps.none _ _)))))); intro v564 w37 ho38 hb hg_ hnew_; clear hg_ hnew_; (first | rw [← Ny563.1] at ho38 | (simp only [Int.reduceToNat] at ho38; rw [← Ny563.1] at ho38)); replace HO_3 := zM (Kd.R_below (zR HO_3.1) hb); have HO565 := zM (Kd.R_lower ho38 (keep_size (w := w) (g := g) (row := none) zB46)); replace HK := zM (KeepBut.trans zB46 (KeepBut.of_below hb g none) (.inl rfl)); replace HB := zM (below_step zB45 hb); replace HI0 := zM (IsS102.below zB44 hb); clear hb ho38))
    go_loopg [8] k1 (fun kq v8 w' => ∃ (x3_2 : List Int) (x8_2 : Int), v8 = .int .i64 x8_2 ∧ Aside0 (spec_l9DrawMem.l1 kq x3_2 y563 x8_2 s0_0 t561 t562 = some (r1, r2, r3)) ∧ Aside0 (kq ≤ k1) ∧ Aside0 (Kd.R (Kd.int .i64) 3 w' w.heap.size (fun _ => True) u3 x3_2) ∧ Aside0 (Kd.R k59 59 w' w.heap.size (fun _ => True) v564 y563) ∧ Aside0 (IsS102 w0 w' g s0_0 t561 t562) ∧ Aside0 (KeepBut w w' g none) ∧ Aside0 (Below w0.heap.size w0 w'))
    case atStart => exact ⟨(x3_1), (0), zJJ, H', ⟨Nat.le_refl _⟩, ⟨zR HO_3.1⟩, ⟨zR HO565.1⟩, ⟨zB44⟩, ⟨zB46⟩, ⟨zB45⟩⟩
    case round =>
     clear H'
     obtain ⟨x3_2, x8_2, rfl, HA, HK2, HO_3, HO_7, HI0, HK, HB⟩ := hrel
     cases gk with
     | zero => exact absurd HA.1 (by simp [spec_l9DrawMem.l1])
     | succ k2 =>
      have H := HA.1
      clear HA
      simp only [spec_l9DrawMem.l1] at H
      by_cases c39 : x8_2 < (y563.length : Int)
      rotate_left
      ·rw [if_neg c39] at H
       have c39b0 := decide_eq_false c39
       clear c39
       simp only [Option.some.injEq, Prod.mk.injEq] at H
       obtain ⟨rfl, rfl, rfl⟩ := H
       obtain ⟨Ao48, co48, eo48⟩ := Kd.R_slice HO_7.1
       subst eo48
       go_wp2
       go_ret
       exact ⟨_, zE, zR HO_3.1, zB44, zB45, zB46⟩
      rw [if_pos c39] at H
      have c39b0 := decide_eq_true c39
      clear c39
      replace H := zIt H
      obtain ⟨c40b0, H⟩ := H
      replace H := zO H
      obtain ⟨⟨t567, t568⟩, A41, H⟩ := H
      try dsimp only at H
      replace H := zIt H
      obtain ⟨c42b0, H⟩ := H
      generalize hy569 : ((x3_2.set (x8_2 : Int).toNat t567) : List Int) = y569 at H
      have Ny569 := zM hy569.symm
      clear hy569
      have H' := zM H
      clear H
      obtain ⟨Ao44, co44, eo44⟩ := Kd.R_slice HO_7.1
      subst eo44
      obtain ⟨p566, q566, ad566, e566, hx566_0, hx566_1, hx566_2, hx566_3, hx566_4⟩ := zRd (at_T59 (Kd.R_reads' HO_7.1).2.2 x8_2)
      cases e566
      go_wp2_with (first | ((with_reducible refine zG Try.func128 57 #[.agg #[.int .i64 ((rd_T59 y563 x8_2).f0), .int .i64 ((rd_T59 y563 x8_2).f1), .int .i64 ((rd_T59 y563 x8_2).f2), .int .i64 ((rd_T59 y563 x8_2).f3), .int .i64 ((rd_T59 y563 x8_2).f4)]] ?_); (with_reducible refine (spec_Code.calls ((rd_T59 y563 x8_2).f0) ((rd_T59 y563 x8_2).f1) ((rd_T59 y563 x8_2).f2) ((rd_T59 y563 x8_2).f3) ((rd_T59 y563 x8_2).f4) t567 t568 _ A41.1).mono ?_); rintro e w45 ⟨rfl, hb⟩; refine ⟨_, rfl, ?_⟩; replace HO_3 := zM (Kd.R_below (zR HO_3.1) hb); replace HO_7 := zM (Kd.R_below (zR HO_7.1) hb); replace HK := zM (KeepBut.trans zB46 (KeepBut.of_below hb g none) (.inl rfl)); replace HB := zM (below_step zB45 hb); replace HI0 := zM (IsS102.below zB44 hb); clear hb; have p43 : 0 ≤ (x8_2 : Int) := zA; have q43 : (x8_2 : Int) < ((x3_2.length : Int) : Int) := zA; obtain ⟨go43, co43, eo43, gb43, gl43, cl43, HG43⟩ := Kd.R_form HO_3.1 (by omega); (first | cases eo43 | (injection eo43 with ea_ en_ ec_; (first | subst ea_ | (injection ea_ with ea_; subst ea_)); subst ec_; clear en_)); have GB43 := zM gb43; have GG43 := zM HG43; clear gb43 gl43 HG43; obtain ⟨hx43_0, hf43_0⟩ := Kd.R_celln 0 HO_3.1 (x8_2 : Int) p43 q43; replace p43 := eq_true p43; replace q43 := eq_true q43; obtain ⟨hy46_, hz46_⟩ := Kd.R_celln 0 HO_3.1 (x8_2 : Int) zA zA; have HP46 := Kd.R_putg HO_3.1 (x8_2 : Int) t567) | ((with_reducible refine gate_store (t := 3) (p := 60) rfl ?_); refine store_event (t := 3) (p := 60) (v := ?vo_w47) (w1 := (w45.setCell ⟨go43, (x8_2 : Int).toNat, none⟩ (.int .i64 t567))) ?hg ?ho ?hn ?hr ?_; (case ho => rfl); (case hg => rfl); (case hn => rfl); (case hr => exact zHH); intro w47 hw; have hg : w45.grownBy w47 (some go43) := (by rw [hw]; exact HP46.2); have hp_ : Kd.R (Kd.int .i64) 3 w47 w.heap.size (fun _ => True) (.slice (some ⟨go43, 0, none⟩) x3_2.length co43) y569 := (by rw [hw, Ny569.1]; exact HP46.1); clear HP46; replace HO_7 := zM (Kd.R_over' (v := (.slice (some ⟨go43, 0, none⟩) x3_2.length co43)) (zR HO_7.1) (Kd.R_typed HO_3.1) (by decide) hg); replace HI0 := zM (IsS102.grown zB44 hg (IsS102.own_ne HI0.1 HO_3.1 (by decide))); replace HB := zM ((by rw [hw]; exact below_set (HB.1) (Nat.le_trans HL.1 GB43.1) : Below w0.heap.size w0 w47)); replace HK := zM (KeepBut.trans zB46 (KeepBut.of_grown hg g) (Kd.R_base2 HO_3.1)); replace HO_3 := zM hp_; clear hg hw hp_))
      go_roundg k2
      case measure => have := HK1.1; have := HK2.1; omega
      case rel => exact ⟨(y569), (wrap64 (x8_2 + 1)), zJJ, H', ⟨by have := HK1.1; have := HK2.1; omega⟩, ⟨zR HO_3.1⟩, ⟨zR HO_7.1⟩, ⟨zB44⟩, ⟨zB46⟩, ⟨zB45⟩⟩
   rw [if_neg c35] at H
   have c35b0 : (t560 == 0) = false := beq_eq_false_iff_ne.mpr c35
   have c35b1 : (t560 != 0) = true := bne_iff_ne.mpr c35
   by_cases c49 : t560 = 1
   rotate_left
   ·rw [if_neg c49] at H
    have c49b0 : (t560 == 1) = false := beq_eq_false_iff_ne.mpr c49
    have c49b1 : (t560 != 1) = true := bne_iff_ne.mpr c49
    simp only [Option.some.injEq, Prod.mk.injEq] at H
    obtain ⟨rfl, rfl, rfl⟩ := H
    go_wp2_with (first | ((with_reducible refine zG Try.func67 36 #[.pointer (some ⟨g, 0, none⟩), .int .i64 4] ?_); (with_reducible refine (spec_l1Below.calls g s0_0 x1001_1 x1002_1 4 t560 t561 t562 w0 _ ?side1 ?side2 A34.1).mono ?_); (case side1 => exact zB44); (case side2 => exact zB45); rintro e w63 ⟨rfl, hi, hb, hk⟩; refine ⟨_, rfl, ?_⟩; replace HO_3 := zM (Kd.R_mono (Kd.R_keep (IsS102.apart (show IsS102 w0 _ g s0_0 x1001_1 x1002_1 from zB44) (zR HO_3.1) (by decide)) hk (fun _ h => h.2)) (fun _ h => h.1)); replace HK := zM (KeepBut.trans zB46 hk (.inl rfl)); replace HB := zM hb; replace HI0 := zM hi; clear hb hk hi))
    go_ret
    exact ⟨_, zE, zR HO_3.1, zB44, zB45, zB46⟩
   rw [if_pos c49] at H
   have c49b0 : (t560 == 1) = true := beq_iff_eq.mpr c49
   have c49b1 : (t560 != 1) = false := bne_eq_false_iff_eq.mpr c49
   clear c49
   generalize hy570 : ((([(⟨4, 1, 0, 0, 8⟩ : S59), (⟨3, 1, 1, 0, 1⟩ : S59), (⟨5, 0, 0, 1, 8⟩ : S59), (⟨8, 0, 0, 0, 8⟩ : S59)] : List (S59))) : List (S59)) = y570 at H
   have Ny570 := zM hy570.symm
   clear hy570
   have H' := zM H
   clear H
   go_wp2_with (first | ((with_reducible refine zG Try.func67 36 #[.pointer (some ⟨g, 0, none⟩), .int .i64 4] ?_); (with_reducible refine (spec_l1Below.calls g s0_0 x1001_1 x1002_1 4 t560 t561 t562 w0 _ ?side1 ?side2 A34.1).mono ?_); (case side1 => exact zB44); (case side2 => exact zB45); rintro e w50 ⟨rfl, hi, hb, hk⟩; refine ⟨_, rfl, ?_⟩; replace HO_3 := zM (Kd.R_mono (Kd.R_keep (IsS102.apart (show IsS102 w0 _ g s0_0 x1001_1 x1002_1 from zB44) (zR HO_3.1) (by decide)) hk (fun _ h => h.2)) (fun _ h => h.1)); replace HK := zM (KeepBut.trans zB46 hk (.inl rfl)); replace HB := zM hb; replace HI0 := zM hi; clear hb hk hi) | ((with_reducible refine gate_dst (N := 67) rfl ?_); refine Kd.R_lit k59 _ 59 ?hg (N := 67) ?hd (xs := ([(⟨4, 1, 0, 0, 8⟩ : S59), (⟨3, 1, 1, 0, 1⟩ : S59), (⟨5, 0, 0, 1, 8⟩ : S59), (⟨8, 0, 0, 0, 8⟩ : S59)] : List (S59))) (inner := [.int .i64 4, .int .i64 1, .int .i64 0, .int .i64 0, .int .i64 8, .int .i64 3, .int .i64 1, .int .i64 1, .int .i64 0, .int .i64 1, .int .i64 5, .int .i64 0, .int .i64 0, .int .i64 1, .int .i64 8, .int .i64 8, .int .i64 0, .int .i64 0, .int .i64 0, .int .i64 8]) (ok := fun _ => True) (okp := fun _ => True) ?hr ?hp (fun _ hk => hk) trivial (Below.refl _ _) (Nat.le_refl _) (by simp) ?_; (case hd => rfl); (case hg => rfl); (case hr => exact zHH); (case hp => exact (Reps.c5 (show Kd.M k59 _ _ _ (⟨4, 1, 0, 0, 8⟩ : S59) [.int .i64 4, .int .i64 1, .int .i64 0, .int .i64 0, .int .i64 8] from (k59_mkM _ _ _ (⟨4, 1, 0, 0, 8⟩ : S59) )) (Reps.c5 (show Kd.M k59 _ _ _ (⟨3, 1, 1, 0, 1⟩ : S59) [.int .i64 3, .int .i64 1, .int .i64 1, .int .i64 0, .int .i64 1] from (k59_mkM _ _ _ (⟨3, 1, 1, 0, 1⟩ : S59) )) (Reps.c5 (show Kd.M k59 _ _ _ (⟨5, 0, 0, 1, 8⟩ : S59) [.int .i64 5, .int .i64 0, .int .i64 0, .int .i64 1, .int .i64 8] from (k59_mkM _ _ _ (⟨5, 0, 0, 1, 8⟩ : S59) )) (Reps.c5 (show Kd.M k59 _ _ _ (⟨8, 0, 0, 0, 8⟩ : S59) [.int .i64 8, .int .i64 0, .int .i64 0, .int .i64 0, .int .i64 8] from (k59_mkM _ _ _ (⟨8, 0, 0, 0, 8⟩ : S59) )) (Reps.none _ _)))))); intro v571 w51 ho52 hb hg_ hnew_; clear hg_ hnew_; (first | rw [← Ny570.1] at ho52 | (simp only [Int.reduceToNat] at ho52; rw [← Ny570.1] at ho52)); replace HO_3 := zM (Kd.R_below (zR HO_3.1) hb); have HO572 := zM (Kd.R_lower ho52 (keep_size (w := w) (g := g) (row := none) zB46)); replace HK := zM (KeepBut.trans zB46 (KeepBut.of_below hb g none) (.inl rfl)); replace HB := zM (below_step zB45 hb); replace HI0 := zM (IsS102.below zB44 hb); clear hb ho52))
   go_loopg [10] k1 (fun kq v10 w' => ∃ (x3_2 : List Int) (x10_2 : Int), v10 = .int .i64 x10_2 ∧ Aside0 (spec_l9DrawMem.l2 kq x3_2 y570 x10_2 s0_0 t561 t562 = some (r1, r2, r3)) ∧ Aside0 (kq ≤ k1) ∧ Aside0 (Kd.R (Kd.int .i64) 3 w' w.heap.size (fun _ => True) u3 x3_2) ∧ Aside0 (Kd.R k59 59 w' w.heap.size (fun _ => True) v571 y570) ∧ Aside0 (IsS102 w0 w' g s0_0 t561 t562) ∧ Aside0 (KeepBut w w' g none) ∧ Aside0 (Below w0.heap.size w0 w'))
   case atStart => exact ⟨(x3_1), (0), zJJ, H', ⟨Nat.le_refl _⟩, ⟨zR HO_3.1⟩, ⟨zR HO572.1⟩, ⟨zB44⟩, ⟨zB46⟩, ⟨zB45⟩⟩
   case round =>
    clear H'
    try clear hf4
    try clear hf43
    obtain ⟨x3_2, x10_2, rfl, HA, HK2, HO_3, HO_9, HI0, HK, HB⟩ := hrel
    cases gk with
    | zero => exact absurd HA.1 (by simp [spec_l9DrawMem.l2])
    | succ k2 =>
     have H := HA.1
     clear HA
     simp only [spec_l9DrawMem.l2] at H
     by_cases c53 : x10_2 < (y570.length : Int)
     rotate_left
     ·rw [if_neg c53] at H
      have c53b0 := decide_eq_false c53
      clear c53
      simp only [Option.some.injEq, Prod.mk.injEq] at H
      obtain ⟨rfl, rfl, rfl⟩ := H
      obtain ⟨Ao62, co62, eo62⟩ := Kd.R_slice HO_9.1
      subst eo62
      go_wp2
      go_ret
      exact ⟨_, zE, zR HO_3.1, zB44, zB45, zB46⟩
     rw [if_pos c53] at H
     have c53b0 := decide_eq_true c53
     clear c53
     replace H := zIt H
     obtain ⟨c54b0, H⟩ := H
     replace H := zO H
     obtain ⟨⟨t574, t575⟩, A55, H⟩ := H
     try dsimp only at H
     replace H := zIt H
     obtain ⟨c56b0, H⟩ := H
     generalize hy576 : ((x3_2.set (x10_2 : Int).toNat t574) : List Int) = y576 at H
     have Ny576 := zM hy576.symm
     clear hy576
     have H' := zM H
     clear H
     obtain ⟨Ao58, co58, eo58⟩ := Kd.R_slice HO_9.1
     subst eo58
     obtain ⟨p573, q573, ad573, e573, hx573_0, hx573_1, hx573_2, hx573_3, hx573_4⟩ := zRd (at_T59 (Kd.R_reads' HO_9.1).2.2 x10_2)
     cases e573
     go_wp2_with (first | ((with_reducible refine zG Try.func128 81 #[.agg #[.int .i64 ((rd_T59 y570 x10_2).f0), .int .i64 ((rd_T59 y570 x10_2).f1), .int .i64 ((rd_T59 y570 x10_2).f2), .int .i64 ((rd_T59 y570 x10_2).f3), .int .i64 ((rd_T59 y570 x10_2).f4)]] ?_); (with_reducible refine (spec_Code.calls ((rd_T59 y570 x10_2).f0) ((rd_T59 y570 x10_2).f1) ((rd_T59 y570 x10_2).f2) ((rd_T59 y570 x10_2).f3) ((rd_T59 y570 x10_2).f4) t574 t575 _ A55.1).mono ?_); rintro e w59 ⟨rfl, hb⟩; refine ⟨_, rfl, ?_⟩; replace HO_3 := zM (Kd.R_below (zR HO_3.1) hb); replace HO_9 := zM (Kd.R_below (zR HO_9.1) hb); replace HK := zM (KeepBut.trans zB46 (KeepBut.of_below hb g none) (.inl rfl)); replace HB := zM (below_step zB45 hb); replace HI0 := zM (IsS102.below zB44 hb); clear hb; have p57 : 0 ≤ (x10_2 : Int) := zA; have q57 : (x10_2 : Int) < ((x3_2.length : Int) : Int) := zA; obtain ⟨go57, co57, eo57, gb57, gl57, cl57, HG57⟩ := Kd.R_form HO_3.1 (by omega); (first | cases eo57 | (injection eo57 with ea_ en_ ec_; (first | subst ea_ | (injection ea_ with ea_; subst ea_)); subst ec_; clear en_)); have GB57 := zM gb57; have GG57 := zM HG57; clear gb57 gl57 HG57; obtain ⟨hx57_0, hf57_0⟩ := Kd.R_celln 0 HO_3.1 (x10_2 : Int) p57 q57; replace p57 := eq_true p57; replace q57 := eq_true q57; obtain ⟨hy60_, hz60_⟩ := Kd.R_celln 0 HO_3.1 (x10_2 : Int) zA zA; have HP60 := Kd.R_putg HO_3.1 (x10_2 : Int) t574) | ((with_reducible refine gate_store (t := 3) (p := 84) rfl ?_); refine store_event (t := 3) (p := 84) (v := ?vo_w61) (w1 := (w59.setCell ⟨go57, (x10_2 : Int).toNat, none⟩ (.int .i64 t574))) ?hg ?ho ?hn ?hr ?_; (case ho => rfl); (case hg => rfl); (case hn => rfl); (case hr => exact zHH); intro w61 hw; have hg : w59.grownBy w61 (some go57) := (by rw [hw]; exact HP60.2); have hp_ : Kd.R (Kd.int .i64) 3 w61 w.heap.size (fun _ => True) (.slice (some ⟨go57, 0, none⟩) x3_2.length co57) y576 := (by rw [hw, Ny576.1]; exact HP60.1); clear HP60; replace HO_9 := zM (Kd.R_over' (v := (.slice (some ⟨go57, 0, none⟩) x3_2.length co57)) (zR HO_9.1) (Kd.R_typed HO_3.1) (by decide) hg); replace HI0 := zM (IsS102.grown zB44 hg (IsS102.own_ne HI0.1 HO_3.1 (by decide))); replace HB := zM ((by rw [hw]; exact below_set (HB.1) (Nat.le_trans HL.1 GB57.1) : Below w0.heap.size w0 w61)); replace HK := zM (KeepBut.trans zB46 (KeepBut.of_grown hg g) (Kd.R_base2 HO_3.1)); replace HO_3 := zM hp_; clear hg hw hp_))
     go_roundg k2
     case measure => have := HK1.1; have := HK2.1; omega
     case rel => exact ⟨(y576), (wrap64 (x10_2 + 1)), zJJ, H', ⟨by have := HK1.1; have := HK2.1; omega⟩, ⟨zR HO_3.1⟩, ⟨zR HO_9.1⟩, ⟨zB44⟩, ⟨zB46⟩, ⟨zB45⟩⟩

end Go.Proofs.Ytnjdepmlpdjghaa.PFnFinals
