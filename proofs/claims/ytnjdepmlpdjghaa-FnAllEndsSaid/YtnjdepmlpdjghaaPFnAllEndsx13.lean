-- made by wip/tools/myprint.py out of the seat's translation
import Derived.Test.YtnjdepmlpdjghaaPFnAllEndsx0
import Derived.Test.YtnjdepmlpdjghaaPFnAllEndsx2
import Derived.Test.YtnjdepmlpdjghaaPFnAllEndsx12
namespace Go.Proofs.Ytnjdepmlpdjghaa.PFnAllEnds
open Go.RowKit Go.Proofs.YtnjdepmlpdjghaaW.PrintWords Go.Proofs.YtnjdepmlpdjghaaW.PrintLast Go.Proofs.YtnjdepmlpdjghaaW.PrintMore
attribute [local go_sem] max2_int min2_int max_two min_two max_three min_three max_four min_four   -- for this text's walks alone
set_option linter.unusedVariables false
set_option linter.unusedSimpArgs false
set_option maxHeartbeats 8000000
set_option maxRecDepth 100000

/-! ### spec_l1Below: function 67 -/
def spec_l1Below.f (s0_0 : List Int) (s0_1 : Int) (s0_2 : Int) (a1 : Int) : Option (Int × Int × Int) := if a1 ≤ 0 then (some (0, s0_1, s0_2)) else (if a1 ≤ 256 then ((spec_l1Byte.f s0_0 s0_1 s0_2).bind fun bt373 => (if a1 = 0 then (none) else (some (Int.tmod bt373.1 a1, bt373.2.1, bt373.2.2)))) else ((spec_l1Byte.f s0_0 s0_1 s0_2).bind fun bt376 => ((spec_l1Byte.f s0_0 bt376.2.1 bt376.2.2).bind fun bt379 => ((spec_l1Byte.f s0_0 bt379.2.1 bt379.2.2).bind fun bt382 => ((spec_l1Byte.f s0_0 bt382.2.1 bt382.2.2).bind fun bt385 => (if a1 = 0 then (none) else (some (Int.tmod (wrap64 ((wrap64 ((wrap64 ((wrap64 (bt376.1 * 16777216)) + (wrap64 (bt379.1 * 65536)))) + (wrap64 (bt382.1 * 256)))) + bt385.1)) a1, bt385.2.1, bt385.2.2))))))))
theorem spec_l1Below.calls (g : Nat) (s0_0 : List Int) (s0_1 : Int) (s0_2 : Int) (a1 : Int) (r1 : Int) (r2 : Int) (r3 : Int) (w0 w : World) (hI : IsS102 w0 w g s0_0 s0_1 s0_2) (hB : Below w0.heap.size w0 w) (h : spec_l1Below.f s0_0 s0_1 s0_2 a1 = some (r1, r2, r3)) :
  Calls Try.prog 67 #[.pointer (some ⟨g, 0, none⟩), .int .i64 a1] w fun e w' => e = .returned (.int .i64 r1) ∧ IsS102 w0 w' g s0_0 r2 r3 ∧ Below w0.heap.size w0 w' ∧ KeepBut w w' g none := by
 have HI0 := zM hI
 have HK := zM (KeepBut.refl w g none)
 have HL := zM hB.size
 clear hI
 have HW0 := zM hB.size
 have HB := zM hB
 clear hB
 unfold spec_l1Below.f at h
 have H := h
 clear h
 by_cases c3 : a1 ≤ 0
 ·rw [if_pos c3] at H
  have c3b0 := decide_eq_true c3
  clear c3
  simp only [Option.some.injEq, Prod.mk.injEq] at H
  obtain ⟨rfl, rfl, rfl⟩ := H
  go_enter Try.func67, Try.ntmps67
  go_wp2
  go_ret
  exact ⟨zE, zB44, zB45, zB46⟩
 rw [if_neg c3] at H
 have c3b0 := decide_eq_false c3
 clear c3
 by_cases c4 : a1 ≤ 256
 ·rw [if_pos c4] at H
  have c4b0 := decide_eq_true c4
  clear c4
  replace H := zO H
  obtain ⟨⟨t373, t374, t375⟩, A5, H⟩ := H
  try dsimp only at H
  by_cases c6 : a1 = 0
  ·rw [if_pos c6] at H
   exact absurd H (by simp)
  rw [if_neg c6] at H
  have c6b0 : (a1 == 0) = false := beq_eq_false_iff_ne.mpr c6
  have c6b1 : (a1 != 0) = true := bne_iff_ne.mpr c6
  simp only [Option.some.injEq, Prod.mk.injEq] at H
  obtain ⟨rfl, rfl, rfl⟩ := H
  go_enter Try.func67, Try.ntmps67
  go_wp2_with (first | ((with_reducible refine zG Try.func90 14 #[.pointer (some ⟨g, 0, none⟩)] ?_); (with_reducible refine (spec_l1Byte.calls g s0_0 s0_1 s0_2 t373 t374 t375 w0 _ ?side1 ?side2 A5.1).mono ?_); (case side1 => exact zB44); (case side2 => exact zB45); rintro e w7 ⟨rfl, hi, hb, hk⟩; refine ⟨_, rfl, ?_⟩; replace HK := zM (KeepBut.trans zB46 hk (.inl rfl)); replace HB := zM hb; replace HI0 := zM hi; clear hb hk hi))
  go_ret
  exact ⟨zE, zB44, zB45, zB46⟩
 rw [if_neg c4] at H
 have c4b0 := decide_eq_false c4
 clear c4
 replace H := zO H
 obtain ⟨⟨t376, t377, t378⟩, A8, H⟩ := H
 try dsimp only at H
 replace H := zO H
 obtain ⟨⟨t379, t380, t381⟩, A9, H⟩ := H
 try dsimp only at H
 replace H := zO H
 obtain ⟨⟨t382, t383, t384⟩, A10, H⟩ := H
 try dsimp only at H
 replace H := zO H
 obtain ⟨⟨t385, t386, t387⟩, A11, H⟩ := H
 try dsimp only at H
 by_cases c12 : a1 = 0
 ·rw [if_pos c12] at H
  exact absurd H (by simp)
 rw [if_neg c12] at H
 have c12b0 : (a1 == 0) = false := beq_eq_false_iff_ne.mpr c12
 have c12b1 : (a1 != 0) = true := bne_iff_ne.mpr c12
 simp only [Option.some.injEq, Prod.mk.injEq] at H
 obtain ⟨rfl, rfl, rfl⟩ := H
 go_enter Try.func67, Try.ntmps67
 go_wp2_with (first | ((with_reducible refine zG Try.func90 18 #[.pointer (some ⟨g, 0, none⟩)] ?_); (with_reducible refine (spec_l1Byte.calls g s0_0 s0_1 s0_2 t376 t377 t378 w0 _ ?side1 ?side2 A8.1).mono ?_); (case side1 => exact zB44); (case side2 => exact zB45); rintro e w13 ⟨rfl, hi, hb, hk⟩; refine ⟨_, rfl, ?_⟩; replace HK := zM (KeepBut.trans zB46 hk (.inl rfl)); replace HB := zM hb; replace HI0 := zM hi; clear hb hk hi) | ((with_reducible refine zG Try.func90 20 #[.pointer (some ⟨g, 0, none⟩)] ?_); (with_reducible refine (spec_l1Byte.calls g s0_0 t377 t378 t379 t380 t381 w0 _ ?side1 ?side2 A9.1).mono ?_); (case side1 => exact zB44); (case side2 => exact zB45); rintro e w14 ⟨rfl, hi, hb, hk⟩; refine ⟨_, rfl, ?_⟩; replace HK := zM (KeepBut.trans zB46 hk (.inl rfl)); replace HB := zM hb; replace HI0 := zM hi; clear hb hk hi) | ((with_reducible refine zG Try.func90 22 #[.pointer (some ⟨g, 0, none⟩)] ?_); (with_reducible refine (spec_l1Byte.calls g s0_0 t380 t381 t382 t383 t384 w0 _ ?side1 ?side2 A10.1).mono ?_); (case side1 => exact zB44); (case side2 => exact zB45); rintro e w15 ⟨rfl, hi, hb, hk⟩; refine ⟨_, rfl, ?_⟩; replace HK := zM (KeepBut.trans zB46 hk (.inl rfl)); replace HB := zM hb; replace HI0 := zM hi; clear hb hk hi) | ((with_reducible refine zG Try.func90 24 #[.pointer (some ⟨g, 0, none⟩)] ?_); (with_reducible refine (spec_l1Byte.calls g s0_0 t383 t384 t385 t386 t387 w0 _ ?side1 ?side2 A11.1).mono ?_); (case side1 => exact zB44); (case side2 => exact zB45); rintro e w16 ⟨rfl, hi, hb, hk⟩; refine ⟨_, rfl, ?_⟩; replace HK := zM (KeepBut.trans zB46 hk (.inl rfl)); replace HB := zM hb; replace HI0 := zM hi; clear hb hk hi))
 go_ret
 exact ⟨zE, zB44, zB45, zB46⟩

/-! ### spec_l1PickInt: function 66 -/
def spec_l1PickInt.f (s0_0 : List Int) (s0_1 : Int) (s0_2 : Int) (l1 : List Int) : Option (Int × Int × Int) := (spec_l1Below.f s0_0 s0_1 s0_2 (l1.length : Int)).bind fun bt388 => (if 0 ≤ bt388.1 then (if bt388.1 < (l1.length : Int) then (some (rd l1 bt388.1, bt388.2.1, bt388.2.2)) else (none)) else (none))
theorem spec_l1PickInt.calls (g : Nat) (s0_0 : List Int) (s0_1 : Int) (s0_2 : Int) (A1 : Option Addr) (c1 : Nat) (l1 : List Int) (r1 : Int) (r2 : Int) (r3 : Int) (w0 w : World) (hI : IsS102 w0 w g s0_0 s0_1 s0_2) (hB : Below w0.heap.size w0 w) (hr1 : Kd.C (Kd.int .i64) w A1 l1.length l1) (hc1 : l1.length ≤ c1) (hf1 : ∀ ad, A1 = some ad → 0 < l1.length → ad.block ≠ g) (h : spec_l1PickInt.f s0_0 s0_1 s0_2 l1 = some (r1, r2, r3)) :
  Calls Try.prog 66 #[.pointer (some ⟨g, 0, none⟩), .slice A1 l1.length c1] w fun e w' => e = .returned (.int .i64 r1) ∧ IsS102 w0 w' g s0_0 r2 r3 ∧ Below w0.heap.size w0 w' ∧ KeepBut w w' g none := by
 have HR1 := zM hr1
 have HC1 := zM hc1
 clear hr1 hc1
 have HI0 := zM hI
 have HK := zM (KeepBut.refl w g none)
 have HL := zM hB.size
 clear hI
 have HW0 := zM hB.size
 have HB := zM hB
 clear hB
 unfold spec_l1PickInt.f at h
 have H := h
 clear h
 replace H := zO H
 obtain ⟨⟨t388, t389, t390⟩, A3, H⟩ := H
 try dsimp only at H
 replace H := zIt H
 obtain ⟨c4b0, H⟩ := H
 replace H := zIt H
 obtain ⟨c5b0, H⟩ := H
 simp only [Option.some.injEq, Prod.mk.injEq] at H
 obtain ⟨rfl, rfl, rfl⟩ := H
 go_enter Try.func66, Try.ntmps66
 go_wp2_with (first | ((with_reducible refine zG Try.func67 9 #[.pointer (some ⟨g, 0, none⟩), .int .i64 (l1.length : Int)] ?_); (with_reducible refine (spec_l1Below.calls g s0_0 s0_1 s0_2 (l1.length : Int) t388 t389 t390 w0 _ ?side1 ?side2 A3.1).mono ?_); (case side1 => exact zB44); (case side2 => exact zB45); rintro e w6 ⟨rfl, hi, hb, hk⟩; refine ⟨_, rfl, ?_⟩; replace HK := zM (KeepBut.trans zB46 hk (.inl rfl)); replace HB := zM hb; replace HI0 := zM hi; clear hb hk hi; have p391 : 0 ≤ (t388 : Int) := zA; have q391 : t388 < (l1.length : Int) := zA; obtain ⟨ad391, e391, hx391_0⟩ := Kd.at_int HR1.1 t388 p391 q391; cases e391; replace hx391_0 := keep_cell HK.1 hx391_0 (by first | (rw [add_block]; exact hf1 _ rfl (by omega)) | exact hf1 _ rfl (by omega) | exact hf1 ad391 rfl (by omega)); replace p391 := eq_true p391; replace q391 := eq_true q391))
 go_ret
 exact ⟨zE, zB44, zB45, zB46⟩

/-! ### spec_l1Once: function 68 -/
def spec_l1Once.f (s0_0 : List Int) (s0_1 : Int) (s0_2 : Int) (a1 : Int) : Option (Bool × Int × Int) := (spec_l1Below.f s0_0 s0_1 s0_2 a1).bind fun bt392 => (some ((bt392.1 == 0), bt392.2.1, bt392.2.2))
theorem spec_l1Once.calls (g : Nat) (s0_0 : List Int) (s0_1 : Int) (s0_2 : Int) (a1 : Int) (r1 : Bool) (r2 : Int) (r3 : Int) (w0 w : World) (hI : IsS102 w0 w g s0_0 s0_1 s0_2) (hB : Below w0.heap.size w0 w) (h : spec_l1Once.f s0_0 s0_1 s0_2 a1 = some (r1, r2, r3)) :
  Calls Try.prog 68 #[.pointer (some ⟨g, 0, none⟩), .int .i64 a1] w fun e w' => e = .returned (.bool r1) ∧ IsS102 w0 w' g s0_0 r2 r3 ∧ Below w0.heap.size w0 w' ∧ KeepBut w w' g none := by
 have HI0 := zM hI
 have HK := zM (KeepBut.refl w g none)
 have HL := zM hB.size
 clear hI
 have HW0 := zM hB.size
 have HB := zM hB
 clear hB
 unfold spec_l1Once.f at h
 have H := h
 clear h
 replace H := zO H
 obtain ⟨⟨t392, t393, t394⟩, A3, H⟩ := H
 try dsimp only at H
 simp only [Option.some.injEq, Prod.mk.injEq] at H
 obtain ⟨rfl, rfl, rfl⟩ := H
 go_enter Try.func68, Try.ntmps68
 go_wp2_with (first | ((with_reducible refine zG Try.func67 7 #[.pointer (some ⟨g, 0, none⟩), .int .i64 a1] ?_); (with_reducible refine (spec_l1Below.calls g s0_0 s0_1 s0_2 a1 t392 t393 t394 w0 _ ?side1 ?side2 A3.1).mono ?_); (case side1 => exact zB44); (case side2 => exact zB45); rintro e w4 ⟨rfl, hi, hb, hk⟩; refine ⟨_, rfl, ?_⟩; replace HK := zM (KeepBut.trans zB46 hk (.inl rfl)); replace HB := zM hb; replace HI0 := zM hi; clear hb hk hi))
 go_ret
 exact ⟨zE, zB44, zB45, zB46⟩

/-! ### spec_HartNew: function 112 -/
def spec_HartNew.f (a0 : Int) : Option (List Int × Int × Int) := (spec_l9Address.f a0).bind fun t399 => (some ((List.replicate 4 0), t399, 0))
theorem spec_HartNew.calls (a0 : Int) (r1 : List Int) (r2 : Int) (r3 : Int) (w : World) (h : spec_HartNew.f a0 = some (r1, r2, r3)) :
  Calls Try.prog 112 #[.int .i64 a0] w fun e w' => ∃ v0_ : Value, e = .returned (.agg #[v0_, .int .i64 r2, .int .i64 r3]) ∧ Kd.R (Kd.int .i64) 3 w' w.heap.size (fun _ => True) v0_ r1 ∧ Below w.heap.size w w' := by
 have hu29 := Try.underlying29
 have HB := zM (Below.refl w.heap.size w)
 unfold spec_HartNew.f at h
 have H := h
 clear h
 generalize hy396 : ((List.replicate 4 0) : List Int) = y396 at H
 have Ny396 := zM hy396.symm
 clear hy396
 replace H := zO H
 obtain ⟨t399, A2, H⟩ := H
 simp only [Option.some.injEq, Prod.mk.injEq] at H
 obtain ⟨rfl, rfl, rfl⟩ := H
 go_enter Try.func112, Try.ntmps112
 try go_wp2_with (first | ((with_reducible refine zBx 2 29 #[.slice none 0 0, .int .i64 0, .int .i64 0] ?_); intro gb395 hg w3 hbox hb; have BK395 := zM hbox; have GW395 := zM (zW hg (below_size zB0)); have GE395 := zM (zW hg (below_size zB0)); replace HB := zM (below_step zB0 hb); clear hb hbox hg))
 replace BK395 := zM (blk_drew BK395.1)
 replace HB := zM (below_drew1 HB.1)
 refine start_ (n := 5) (S := fun w' => True) (ds := []) #[false, false, false, false, false] (by kernel_rfl) rfl rfl trivial (fun hHeld => ?_)
 generalize w3.drew = w4 at BK395 HB hHeld ⊢
 refine zPu 1 ?_
 refine join_ (σ := Value) 2 #[true, true, true, false, false] (fun s_ => [(3, s_), (5, .int .i64 t399)]) (fun s_ w' => (Kd.R (Kd.int .i64) 3 w' w.heap.size (fun _ => True) s_ y396) ∧ (w'.heap[gb395]? = some (.cells #[.slice none 0 0, .int .i64 0, .int .i64 0] 29 (0, 0))) ∧ (Below w.heap.size w w')) ?_ ?_
 rotate_left
 ·intro hCont
  refine two_ (i := 0) (j := 2) (Ni := some 3) (Nj := some 5) #[true, true, false, false, false] #[false, true, true, false, false] rfl rfl rfl rfl (by kernel_rfl) (by decide) (by decide) (fun K hK => ?_) (fun K hK => ?_)
  ·refine Kd.R_make_step (Kd.int .i64) _ 3 (by rfl) (N := 3) rfl 24 _ _ rfl 4 rfl rfl Try.underlying24 (.int .i64 0) 8 info3 rfl (by decide) (by omega) 0 (ok := fun _ => True) (okp := fun _ => True) rfl (fun _ hk => hk) trivial (by omega) (by omega) (Below.refl _ _) (Nat.le_refl _) ?_
   intro v397 w5 ho6 hb hg_ hnew_
   clear hg_ hnew_
   (first | rw [← Ny396.1] at ho6 | (simp only [Int.reduceToNat] at ho6; rw [← Ny396.1] at ho6))
   replace HO398 := zM (Kd.R_lower ho6 (below_size zB0))
   replace BK395 := zM (zb BK395.1 hb)
   replace HB := zM (below_step zB0 hb)
   refine hK.out _ _ trivial (fun hHeld => ?_)
   clear hK K
   refine zNo ?_
   refine zOn 2 (some 5) fun K hK => ?_
   refine zGs Try.func125 #[.int .i64 a0] ?_
   with_reducible refine (spec_l9Address.calls a0 t399 _ A2.1).mono ?_
   rintro e w' ⟨rfl, ⟨nd, rfl⟩⟩
   refine ⟨_, rfl, ?_⟩
   obtain ⟨Ao7, co7, eo7⟩ := Kd.R_slice HO398.1
   (first | subst eo7 | (injection eo7 with f1_ f2_ f3_; have f4_ := f1_.symm; have f5_ := f3_.symm; clear f1_ f2_ f3_; subst f4_; subst f5_))
   refine hK.out _ _ trivial (fun hHeld => ?_)
   clear hK K
   refine zNo ?_
   exact norm_ zNr (hCont (.slice Ao7 y396.length co7) _ ⟨(zR HO398.1), (zK BK395.1), zB0⟩)
  ·refine zGs Try.func125 #[.int .i64 a0] ?_
   with_reducible refine (spec_l9Address.calls a0 t399 _ A2.1).mono ?_
   rintro e w' ⟨rfl, ⟨nd, rfl⟩⟩
   refine ⟨_, rfl, ?_⟩
   refine hK.out _ _ trivial (fun hHeld => ?_)
   clear hK K
   refine zNo ?_
   refine zOn 0 (some 3) fun K hK => ?_
   refine Kd.R_make_step (Kd.int .i64) _ 3 (by rfl) (N := 3) rfl 24 _ _ rfl 4 rfl rfl Try.underlying24 (.int .i64 0) 8 info3 rfl (by decide) (by omega) 0 (ok := fun _ => True) (okp := fun _ => True) rfl (fun _ hk => hk) trivial (by omega) (by omega) (Below.refl _ _) (Nat.le_refl _) ?_
   intro v397 w5 ho6 hb hg_ hnew_
   clear hg_ hnew_
   (first | rw [← Ny396.1] at ho6 | (simp only [Int.reduceToNat] at ho6; rw [← Ny396.1] at ho6))
   replace HO398 := zM (Kd.R_lower ho6 (below_size zB0))
   replace BK395 := zM (zb BK395.1 hb)
   replace HB := zM (below_step zB0 hb)
   obtain ⟨Ao7, co7, eo7⟩ := Kd.R_slice HO398.1
   (first | subst eo7 | (injection eo7 with f1_ f2_ f3_; have f4_ := f1_.symm; have f5_ := f3_.symm; clear f1_ f2_ f3_; subst f4_; subst f5_))
   refine hK.out _ _ trivial (fun hHeld => ?_)
   clear hK K
   refine zNo ?_
   exact norm_ zNr (hCont (.slice Ao7 y396.length co7) _ ⟨(zR HO398.1), (zK BK395.1), zB0⟩)
 rintro v397 w8 ⟨h0_, h1_, h2_⟩
 replace HO398 := zM h0_
 replace BK395 := zM h1_
 replace HB := zM h2_
 have hHeld := trivial
 obtain ⟨Ao9, co9, eo9⟩ := Kd.R_slice HO398.1
 (first | subst eo9 | (injection eo9 with f1_ f2_ f3_; have f4_ := f1_.symm; have f5_ := f3_.symm; clear f1_ f2_ f3_; subst f4_; subst f5_))
 refine zNp ?_
 refine zPu 3 ?_
 refine zOn 4 none fun K hK => ?_
 obtain ⟨hs10, hfs10⟩ := zHs BK395.1 0
 obtain ⟨hs11, hfs11⟩ := zHs BK395.1 1
 obtain ⟨hs12, hfs12⟩ := zHs BK395.1 2
 refine skip_ (w1 := ?_) (by rfl) rfl ?_ ?_
 rotate_left
 ·go_simp
  rfl
 refine hK.out _ _ trivial (fun hHeld => ?_)
 clear hK K
 refine done_ (by kernel_rfl) ?_
 try go_wp2
 refine bodyPost_ret (results_cell_row rfl _ _ gb395 29 #[.slice Ao9 y396.length co9, .int .i64 t399, .int .i64 0] (0, 0) _ rfl (by exact zp3 (zK BK395.1)) Try.underlying29 rfl (by kernel_rfl)) rfl ?_
 exact ⟨_, zE, by refine zrR ?_; exact Kd.R_mono (zfR (zfR (zfR (Kd.R_types HO398.1 BK395.1 (by decide))))) (fun _ hk => trivial), zB0⟩

end Go.Proofs.Ytnjdepmlpdjghaa.PFnAllEnds
