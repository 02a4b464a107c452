-- made by wip/tools/myprint.py out of the seat's translation
import Derived.Test.YtaakcbgpmabaaaaDoorPFnStoriesx0
import Derived.Shelf.Strings.Count
import Derived.Shelf.Strings.Search1
import Derived.Shelf.Strings.Search2
import Derived.Shelf.Strings.Search3
import Derived.Test.YtaakcbgpmabaaaaDoorPFnStoriesx2
import Derived.Test.YtaakcbgpmabaaaaDoorPFnStoriesx9
import Derived.Test.YtaakcbgpmabaaaaDoorPFnStoriesx11
namespace Go.Proofs.YtaakcbgpmabaaaaDoor.PFnStories
open Go.RowKit Go.Proofs.YtaakcbgpmabaaaaDoorW.PrintWords Go.Proofs.YtaakcbgpmabaaaaDoorW.PrintLast Go.Proofs.YtaakcbgpmabaaaaDoorW.PrintMore
attribute [local go_sem] max2_int min2_int max_two min_two max_three min_three max_four min_four   -- for this text's walks alone
set_option linter.unusedVariables false
set_option linter.unusedSimpArgs false
set_option maxHeartbeats 8000000
set_option maxRecDepth 100000

/-! ### spec_l28Dent: function 20 -/
def spec_l28Dent.f (s0_0 : List Int) (s0_1 : Int) (s0_2 : Int) (a1 : ByteArray) : Option (ByteArray × Int × Int) := (spec_l1Below.f s0_0 s0_1 s0_2 (wrap64 ((a1.size : Int) + 1))).bind fun bt607 => ((spec_l1Below.f s0_0 bt607.2.1 bt607.2.2 5).bind fun bt610 => (if bt610.1 = 0 then (if 0 ≤ bt607.1 then (if bt607.1 ≤ (a1.size : Int) then (some (a1.extract 0 (bt607.1 : Int).toNat, bt610.2.1, bt610.2.2)) else (none)) else (none)) else (if bt610.1 = 1 then (if 0 ≤ bt607.1 then (if bt607.1 ≤ (a1.size : Int) then ((spec_l1Pick.f s0_0 bt610.2.1 bt610.2.2 (([(⟨#[32]⟩ : ByteArray), (⟨#[45]⟩ : ByteArray), (⟨#[48]⟩ : ByteArray), (⟨#[10]⟩ : ByteArray), (⟨#[120]⟩ : ByteArray)] : List ByteArray))).bind fun bt616 => (if (a1.extract 0 (bt607.1 : Int).toNat).size + bt616.1.size ≤ 9223372036854775807 then (if ((a1.extract 0 (bt607.1 : Int).toNat) ++ bt616.1).size + (a1.extract (bt607.1 : Int).toNat a1.size).size ≤ 9223372036854775807 then (some (((a1.extract 0 (bt607.1 : Int).toNat) ++ bt616.1) ++ (a1.extract (bt607.1 : Int).toNat a1.size), bt616.2.1, bt616.2.2)) else (none)) else (none))) else (none)) else (none)) else (some (a1, bt610.2.1, bt610.2.2)))))
def spec_l28Dent.T6 : Bool × List (List Nat × List Nat) := (true, [([], []), ([], []), ([0, 1], [0, 1]), ([], []), ([], []), ([3, 4], [3, 4]), ([2, 5], [2, 5]), ([], []), ([], []), ([7, 8], [7, 8]), ([6, 9], [6, 9]), ([10, 5, 0, 1, 2, 3, 4, 5, 6, 7, 8, 9, 10], [10])])
def spec_l28Dent.B6 : List Nat := [0, 0, 3, 0, 0, 24, 63, 0, 0, 384, 1023, 2047]
theorem spec_l28Dent.tab6 : rtab .any (opsOf Tryd.f20 6) = spec_l28Dent.T6 := by kernel_rfl
theorem spec_l28Dent.bits6 : waitsOk spec_l28Dent.T6.2 spec_l28Dent.B6 = true := by kernel_rfl
theorem spec_l28Dent.calls (g : Nat) (s0_0 : List Int) (s0_1 : Int) (s0_2 : Int) (a1 : ByteArray) (r1 : ByteArray) (r2 : Int) (r3 : Int) (w0 w : World) (hI : IsS64 w0 w g s0_0 s0_1 s0_2) (hB : Below w0.heap.size w0 w) (h : spec_l28Dent.f s0_0 s0_1 s0_2 a1 = some (r1, r2, r3)) :
  Calls Tryd.prog 20 #[.pointer (some ⟨g, 0, none⟩), .string a1] w fun e w' => e = .returned (.string r1) ∧ IsS64 w0 w' g s0_0 r2 r3 ∧ Below w0.heap.size w0 w' ∧ KeepBut w w' g none := by
 have HI0 := zM hI
 have HK := zM (KeepBut.refl w g none)
 have HL := zM hB.size
 clear hI
 have HW0 := zM hB.size
 have HB := zM hB
 clear hB
 unfold spec_l28Dent.f at h
 have H := h
 clear h
 replace H := zO H
 obtain ⟨⟨t607, t608, t609⟩, A3, H⟩ := H
 try dsimp only at H
 replace H := zO H
 obtain ⟨⟨t610, t611, t612⟩, A4, H⟩ := H
 try dsimp only at H
 by_cases c5 : t610 = 0
 ·rw [if_pos c5] at H
  have c5b0 : (t610 == 0) = true := beq_iff_eq.mpr c5
  have c5b1 : (t610 != 0) = false := bne_eq_false_iff_eq.mpr c5
  clear c5
  replace H := zIp H
  obtain ⟨c6, H⟩ := H
  have c6b0 := eq_true c6
  have c6b1 : decide (0 ≤ t607) = true := decide_eq_true c6
  clear c6
  replace H := zIp H
  obtain ⟨c7, H⟩ := H
  have c7b0 := eq_true c7
  have c7b1 : decide (t607 ≤ (a1.size : Int)) = true := decide_eq_true c7
  clear c7
  simp only [Option.some.injEq, Prod.mk.injEq] at H
  obtain ⟨rfl, rfl, rfl⟩ := H
  go_enter Tryd.func20, Tryd.ntmps20
  go_wp2_with (first | ((with_reducible refine gate_callee (f := 18) rfl ?_); refine goesL_ (some 10) rfl rfl Tryd.func18 (by kernel_rfl) rfl #[.pointer (some ⟨g, 0, none⟩), .int .i64 (wrap64 ((a1.size : Int) + 1))] rfl zT ?_; (with_reducible refine (spec_l1Below.calls g s0_0 s0_1 s0_2 (wrap64 ((a1.size : Int) + 1)) t607 t608 t609 w0 _ ?side1 ?side2 A3.1).mono ?_); (case side1 => exact zB0); (case side2 => exact zB1); rintro e w8 ⟨rfl, hi, hb, hk⟩; refine ⟨_, rfl, ?_⟩; replace HK := zM (KeepBut.trans zB2 hk (.inl rfl)); replace HB := zM hb; replace HI0 := zM hi; clear hb hk hi) | ((with_reducible refine gate_callee (f := 18) rfl ?_); refine goesL_ (some 12) rfl rfl Tryd.func18 (by kernel_rfl) rfl #[.pointer (some ⟨g, 0, none⟩), .int .i64 5] rfl zT ?_; (with_reducible refine (spec_l1Below.calls g s0_0 t608 t609 5 t610 t611 t612 w0 _ ?side1 ?side2 A4.1).mono ?_); (case side1 => exact zB0); (case side2 => exact zB1); rintro e w9 ⟨rfl, hi, hb, hk⟩; refine ⟨_, rfl, ?_⟩; replace HK := zM (KeepBut.trans zB2 hk (.inl rfl)); replace HB := zM hb; replace HI0 := zM hi; clear hb hk hi))
  go_ret
  exact ⟨zE, zB0, zB1, zB2⟩
 rw [if_neg c5] at H
 have c5b0 : (t610 == 0) = false := beq_eq_false_iff_ne.mpr c5
 have c5b1 : (t610 != 0) = true := bne_iff_ne.mpr c5
 by_cases c10 : t610 = 1
 rotate_left
 ·rw [if_neg c10] at H
  have c10b0 : (t610 == 1) = false := beq_eq_false_iff_ne.mpr c10
  have c10b1 : (t610 != 1) = true := bne_iff_ne.mpr c10
  simp only [Option.some.injEq, Prod.mk.injEq] at H
  obtain ⟨rfl, rfl, rfl⟩ := H
  go_enter Tryd.func20, Tryd.ntmps20
  go_wp2_with (first | ((with_reducible refine gate_callee (f := 18) rfl ?_); refine goesL_ (some 10) rfl rfl Tryd.func18 (by kernel_rfl) rfl #[.pointer (some ⟨g, 0, none⟩), .int .i64 (wrap64 ((a1.size : Int) + 1))] rfl zT ?_; (with_reducible refine (spec_l1Below.calls g s0_0 s0_1 s0_2 (wrap64 ((a1.size : Int) + 1)) t607 t608 t609 w0 _ ?side1 ?side2 A3.1).mono ?_); (case side1 => exact zB0); (case side2 => exact zB1); rintro e w25 ⟨rfl, hi, hb, hk⟩; refine ⟨_, rfl, ?_⟩; replace HK := zM (KeepBut.trans zB2 hk (.inl rfl)); replace HB := zM hb; replace HI0 := zM hi; clear hb hk hi) | ((with_reducible refine gate_callee (f := 18) rfl ?_); refine goesL_ (some 12) rfl rfl Tryd.func18 (by kernel_rfl) rfl #[.pointer (some ⟨g, 0, none⟩), .int .i64 5] rfl zT ?_; (with_reducible refine (spec_l1Below.calls g s0_0 t608 t609 5 t610 t611 t612 w0 _ ?side1 ?side2 A4.1).mono ?_); (case side1 => exact zB0); (case side2 => exact zB1); rintro e w26 ⟨rfl, hi, hb, hk⟩; refine ⟨_, rfl, ?_⟩; replace HK := zM (KeepBut.trans zB2 hk (.inl rfl)); replace HB := zM hb; replace HI0 := zM hi; clear hb hk hi))
  go_ret
  exact ⟨zE, zB0, zB1, zB2⟩
 rw [if_pos c10] at H
 have c10b0 : (t610 == 1) = true := beq_iff_eq.mpr c10
 have c10b1 : (t610 != 1) = false := bne_eq_false_iff_eq.mpr c10
 clear c10
 replace H := zIp H
 obtain ⟨c11, H⟩ := H
 have c11b0 := eq_true c11
 have c11b1 : decide (0 ≤ t607) = true := decide_eq_true c11
 clear c11
 replace H := zIp H
 obtain ⟨c12, H⟩ := H
 have c12b0 := eq_true c12
 have c12b1 : decide (t607 ≤ (a1.size : Int)) = true := decide_eq_true c12
 clear c12
 generalize hy613 : ((([(⟨#[32]⟩ : ByteArray), (⟨#[45]⟩ : ByteArray), (⟨#[48]⟩ : ByteArray), (⟨#[10]⟩ : ByteArray), (⟨#[120]⟩ : ByteArray)] : List ByteArray)) : List ByteArray) = y613 at H
 have Ny613 := zM hy613.symm
 clear hy613
 replace H := zO H
 obtain ⟨⟨t616, t617, t618⟩, A13, H⟩ := H
 try dsimp only at H
 replace H := zIp H
 obtain ⟨c14, H⟩ := H
 have c14b0 := eq_true c14
 have c14b1 : decide ((a1.extract 0 (t607 : Int).toNat).size + t616.size ≤ 9223372036854775807) = true := decide_eq_true c14
 try have c14b2 : (9223372036854775807 < (a1.extract 0 (t607 : Int).toNat).size + t616.size) = False := eq_false (Nat.not_lt.2 c14)
 have c14b9 : (9223372036854775807 < t607.toNat + t616.size) = False := eq_false (by have h_ := c14; have h1_ : t607 ≤ (a1.size : Int) := of_eq_true (by assumption); rw [ByteArray.size_extract] at h_; omega)
 have c15b0 := eq_true (zA : 0 ≤ t607)
 have c16b0 := eq_true (zA : t607 ≤ (a1.size : Int))
 replace H := zIp H
 obtain ⟨c17, H⟩ := H
 have c17b0 := eq_true c17
 have c17b1 : decide (((a1.extract 0 (t607 : Int).toNat) ++ t616).size + (a1.extract (t607 : Int).toNat a1.size).size ≤ 9223372036854775807) = true := decide_eq_true c17
 try have c17b3 : (9223372036854775807 < (a1.extract 0 (t607 : Int).toNat).size + t616.size + (a1.extract (t607 : Int).toNat a1.size).size) = False := eq_false (by have h_ := c17; simp only [ByteArray.size_append] at h_; exact Nat.not_lt.2 h_)
 try have c17b2 : (9223372036854775807 < ((a1.extract 0 (t607 : Int).toNat) ++ t616).size + (a1.extract (t607 : Int).toNat a1.size).size) = False := eq_false (Nat.not_lt.2 c17)
 have c17b9 : (9223372036854775807 < t607.toNat + t616.size + (a1.size - t607.toNat)) = False := eq_false (by have h_ := c17; have h1_ : t607 ≤ (a1.size : Int) := of_eq_true (by assumption); rw [ByteArray.size_append, ByteArray.size_extract, ByteArray.size_extract] at h_; omega)
 simp only [Option.some.injEq, Prod.mk.injEq] at H
 obtain ⟨rfl, rfl, rfl⟩ := H
 go_enter Tryd.func20, Tryd.ntmps20
 try go_wp2_with (first | ((with_reducible refine gate_callee (f := 18) rfl ?_); refine goesL_ (some 10) rfl rfl Tryd.func18 (by kernel_rfl) rfl #[.pointer (some ⟨g, 0, none⟩), .int .i64 (wrap64 ((a1.size : Int) + 1))] rfl zT ?_; (with_reducible refine (spec_l1Below.calls g s0_0 s0_1 s0_2 (wrap64 ((a1.size : Int) + 1)) t607 t608 t609 w0 _ ?side1 ?side2 A3.1).mono ?_); (case side1 => exact zB0); (case side2 => exact zB1); rintro e w18 ⟨rfl, hi, hb, hk⟩; refine ⟨_, rfl, ?_⟩; replace HK := zM (KeepBut.trans zB2 hk (.inl rfl)); replace HB := zM hb; replace HI0 := zM hi; clear hb hk hi) | ((with_reducible refine gate_callee (f := 18) rfl ?_); refine goesL_ (some 12) rfl rfl Tryd.func18 (by kernel_rfl) rfl #[.pointer (some ⟨g, 0, none⟩), .int .i64 5] rfl zT ?_; (with_reducible refine (spec_l1Below.calls g s0_0 t608 t609 5 t610 t611 t612 w0 _ ?side1 ?side2 A4.1).mono ?_); (case side1 => exact zB0); (case side2 => exact zB1); rintro e w19 ⟨rfl, hi, hb, hk⟩; refine ⟨_, rfl, ?_⟩; replace HK := zM (KeepBut.trans zB2 hk (.inl rfl)); replace HB := zM hb; replace HI0 := zM hi; clear hb hk hi))
 replace HI0 := zM (IsS64.drew HI0.1)
 replace HK := zM (keep_drew HK.1)
 replace HB := zM (below_drew1 HB.1)
 refine start_ (n := 12) (S := fun w' => True) (ds := []) #[false, false, false, false, false, false, false, false, false, false, false, false] (by kernel_rfl) rfl rfl trivial (fun hHeld => ?_); refine with_tabW spec_l28Dent.tab6 spec_l28Dent.bits6 (fun HT_ HW_ => ?_)
 generalize w19.drew = w20 at HI0 HK HB hHeld ⊢
 refine zPu 0 ?_
 refine zPu 1 ?_
 refine zPu 2 ?_
 refine zPu 3 ?_
 refine zPu 7 ?_
 refine zPu 8 ?_
 refine zPu 9 ?_
 refine zOn 4 (some 24) fun K hK => ?_
 refine Kd.R_lit_step Kd.string _ 9 ?hg (N := 24) ?hd (xs := ([(⟨#[32]⟩ : ByteArray), (⟨#[45]⟩ : ByteArray), (⟨#[48]⟩ : ByteArray), (⟨#[10]⟩ : ByteArray), (⟨#[120]⟩ : ByteArray)] : List ByteArray)) (inner := [.string (⟨#[32]⟩ : ByteArray), .string (⟨#[45]⟩ : ByteArray), .string (⟨#[48]⟩ : ByteArray), .string (⟨#[10]⟩ : ByteArray), .string (⟨#[120]⟩ : ByteArray)]) (ok := fun _ => True) (okp := fun _ => True) ?hr ?hp (fun _ hk => hk) trivial (Below.refl _ _) (Nat.le_refl _) (by simp) ?_; (case hd => rfl); (case hg => rfl); (case hr => exact zHH); (case hp => exact (Reps.one (show Kd.M Kd.string _ _ _ (⟨#[32]⟩ : ByteArray) [.string (⟨#[32]⟩ : ByteArray)] from rfl) (Reps.one (show Kd.M Kd.string _ _ _ (⟨#[45]⟩ : ByteArray) [.string (⟨#[45]⟩ : ByteArray)] from rfl) (Reps.one (show Kd.M Kd.string _ _ _ (⟨#[48]⟩ : ByteArray) [.string (⟨#[48]⟩ : ByteArray)] from rfl) (Reps.one (show Kd.M Kd.string _ _ _ (⟨#[10]⟩ : ByteArray) [.string (⟨#[10]⟩ : ByteArray)] from rfl) (Reps.one (show Kd.M Kd.string _ _ _ (⟨#[120]⟩ : ByteArray) [.string (⟨#[120]⟩ : ByteArray)] from rfl) (Reps.none _ _)))))))
 intro v614 w21 ho22 hb hg_ hnew_
 clear hg_ hnew_
 (first | rw [← Ny613.1] at ho22 | (simp only [Int.reduceToNat] at ho22; rw [← Ny613.1] at ho22))
 have n0_ := zM (Kd.R_lower ho22 (keep_size (w := w) (g := g) (row := none) zB2))
 have n1_ := zM (IsS64.below zB0 hb)
 have n2_ := zM (KeepBut.trans zB2 (KeepBut.of_below hb g none) (.inl rfl))
 have n3_ := zM (below_step zB1 hb)
 clear HI0 HK HB
 have HO615 := n0_
 have HI0 := n1_
 have HK := n2_
 have HB := n3_
 clear n0_ n1_ n2_ n3_ hb ho22
 obtain ⟨Ao23, co23, eo23⟩ := Kd.R_slice HO615.1
 (first | subst eo23 | (injection eo23 with f1_ f2_ f3_; have f4_ := f1_.symm; have f5_ := f3_.symm; clear f1_ f2_ f3_; subst f4_; subst f5_))
 refine hK.out _ _ trivial (fun hHeld => ?_)
 clear hK K
 refine zNo ?_
 refine zOn 5 (some 25) fun K hK => ?_
 refine goes_ Tryd.func36 (by kernel_rfl) rfl #[.pointer (some ⟨g, 0, none⟩), .slice Ao23 y613.length co23] (by rfl) rfl rfl zT ?_
 with_reducible refine (spec_l1Pick.calls g s0_0 t611 t612 _ _ y613 t616 t617 t618 w0 _ ?side1 ?side2 ?side3 ?side4 ?side5 A13.1).mono ?_
 (case side1 => exact zB0)
 (case side2 => exact zB1)
 (case side3 => exact zC (Kd.R_reads' HO615.1).2.2)
 (case side4 => exact (Kd.R_reads' HO615.1).2.1)
 (case side5 => exact far_slice (IsS64.own_ne HI0.1 HO615.1 (by decide)))
 rintro e w24 ⟨rfl, hi, hb, hk⟩
 refine ⟨_, rfl, ?_⟩
 replace HO615 := zM (Kd.R_mono (Kd.R_keep (IsS64.apart (show IsS64 w0 _ g s0_0 t611 t612 from zB0) (zR HO615.1) (by decide)) hk (fun _ h => h.2)) (fun _ h => h.1))
 replace HK := zM (KeepBut.trans zB2 hk (.inl rfl))
 replace HB := zM hb
 replace HI0 := zM hi
 refine hK.out _ _ trivial (fun hHeld => ?_)
 clear hK K
 refine zNo ?_
 refine zPu 6 ?_
 refine zPu 10 ?_
 refine zPu 11 ?_
 refine done_ (done_of HT_.1 (by kernel_rfl)) ?_
 try go_wp2
 go_ret
 exact ⟨zE, zB0, zB1, zB2⟩

/-! ### spec_DrawTraceRead: function 7 -/
def spec_DrawTraceRead.l0 : Nat → List (S31) → Int → List Int → Int → Int → Option (ByteArray)
 | 0, _, _, _, _, _ => none
 | k + 1, x4, x5, x623000, x623001, x623002 => (spec_l1Below.f x623000 x623001 x623002 5).bind fun bt626 => (if x5 < bt626.1 then ((spec_l19DrawEvent.f x623000 bt626.2.1 bt626.2.2).bind fun bt629 => (if x4.length < 3518437208883 then (spec_DrawTraceRead.l0 k (x4 ++ [(⟨bt629.1, bt629.2.1, bt629.2.2.1, bt629.2.2.2.1, bt629.2.2.2.2.1⟩ : S31)]) (wrap64 (x5 + 1)) x623000 bt629.2.2.2.2.2.1 bt629.2.2.2.2.2.2) else (none))) else ((spec_TraceText.f k x4).bind fun t639 => ((spec_l28Dent.f x623000 bt626.2.1 bt626.2.2 t639).bind fun bt640 => (some bt640.1))))
def spec_DrawTraceRead.f (k : Nat) (l0 : List Int) : Option (ByteArray) := (spec_l1New.f k l0).bind fun bt619 => (spec_DrawTraceRead.l0 k (([] : List (S31))) 0 bt619.1 bt619.2.1 bt619.2.2)
theorem spec_DrawTraceRead.mono_l : ∀ k, (∀ y0 y1 y2 y3 y4, LeO (spec_DrawTraceRead.l0 k y0 y1 y2 y3 y4) (spec_DrawTraceRead.l0 (k + 1) y0 y1 y2 y3 y4))
 | 0 => fun _ _ _ _ _ r h => by simp [spec_DrawTraceRead.l0] at h
 | k + 1 => by
  have ih0 := spec_DrawTraceRead.mono_l k
  ·intros
   unfold spec_DrawTraceRead.l0
   have mo0 := @spec_TraceText.mono
   have mo1 := @spec_l1New.mono
   exact zL
theorem spec_DrawTraceRead.mono : ∀ a0 k, LeO (spec_DrawTraceRead.f k a0) (spec_DrawTraceRead.f (k + 1) a0) := by
 intro a0 k
 have ih0 := spec_DrawTraceRead.mono_l k
 unfold spec_DrawTraceRead.f
 have mo0 := @spec_TraceText.mono
 have mo1 := @spec_l1New.mono
 exact zL
theorem spec_DrawTraceRead.calls (k : Nat) (A0 : Option Addr) (c0 : Nat) (l0 : List Int) (r : ByteArray) (w : World) (hr0 : Kd.C (Kd.int .u8) w A0 l0.length l0) (hc0 : l0.length ≤ c0) (h : spec_DrawTraceRead.f k l0 = some r) :
  Calls Tryd.prog 7 #[.slice A0 l0.length c0] w fun e w' => e = .returned (.string r) ∧ Below w.heap.size w w' := by
 have HR0 := zM hr0
 have HC0 := zM hc0
 clear hr0 hc0
 have HB := zM (Below.refl w.heap.size w)
 unfold spec_DrawTraceRead.f at h
 have H := h
 clear h
 replace H := zO H
 obtain ⟨⟨t619, t620, t621⟩, A2, H⟩ := H
 try dsimp only at H
 generalize hy623 : ((([] : List (S31))) : List (S31)) = y623 at H
 have Ny623 := zM hy623.symm
 clear hy623
 have H' := zM H
 clear H
 go_enter Tryd.func7, Tryd.ntmps7
 go_wp2_with (first | ((with_reducible refine gate_callee (f := 17) rfl ?_); refine goesL_ (some 7) rfl rfl Tryd.func17 (by kernel_rfl) rfl #[.slice A0 l0.length c0] rfl zT ?_; (with_reducible refine (spec_l1New.calls k _ _ l0 t619 t620 t621 w _ ?side1 ?side2 ?side3 A2.1).mono ?_); (case side1 => exact zB3); (case side2 => exact HR0.1); (case side3 => exact HC0.1); rintro e w3 ⟨g622, rfl, hi, hb, hb2⟩; refine ⟨_, rfl, ?_⟩; replace HB := zM hb; have HI622 := zM hi; clear hb hb2 hi) | ((with_reducible refine gate_dst (N := 8) rfl ?_); refine Kd.R_lit k31 _ 31 ?hg (N := 8) ?hd (xs := ([] : List (S31))) (inner := []) (ok := fun _ => True) (okp := fun _ => True) ?hr ?hp (fun _ hk => hk) trivial (Below.refl _ _) (Nat.le_refl _) (by simp) ?_; (case hd => rfl); (case hg => rfl); (case hr => exact zHH); (case hp => exact (Reps.none _ _)); intro v624 w4 ho5 hb hg_ hnew_; clear hg_ hnew_; (first | rw [← Ny623.1] at ho5 | (simp only [Int.reduceToNat] at ho5; rw [← Ny623.1] at ho5)); have HO625 := zM (Kd.R_lower ho5 (below_size zB69)); replace HB := zM (below_step zB69 hb); replace HI622 := zM (IsS64.below zB70 hb); clear hb ho5))
 go_loopg [4, 5] k (fun kq v4 v5 w' => ∃ (x4_1 : List (S31)) (x5_1 : Int) (x623001_1 : Int) (x623002_1 : Int), v5 = .int .i64 x5_1 ∧ Aside0 (spec_DrawTraceRead.l0 kq x4_1 x5_1 t619 x623001_1 x623002_1 = some r) ∧ Aside0 (kq ≤ k) ∧ Aside0 (Kd.R k31 31 w' w.heap.size (fun _ => True) v4 x4_1) ∧ Aside0 (IsS64 w w' g622 t619 x623001_1 x623002_1) ∧ Aside0 (Below w.heap.size w w'))
 case atStart => exact ⟨(y623), (0), (t620), (t621), zJJ, H', ⟨Nat.le_refl _⟩, ⟨zR HO625.1⟩, ⟨zB70⟩, ⟨zB69⟩⟩
 case round =>
  clear H'
  obtain ⟨x4_1, x5_1, x623001_1, x623002_1, rfl, HA, HK1, HO_4, HI622, HB⟩ := hrel
  cases gk with
  | zero => exact absurd HA.1 (by simp [spec_DrawTraceRead.l0])
  | succ k1 =>
   have H := HA.1
   clear HA
   simp only [spec_DrawTraceRead.l0] at H
   replace H := zO H
   obtain ⟨⟨t626, t627, t628⟩, A6, H⟩ := H
   try dsimp only at H
   by_cases c7 : x5_1 < t626
   rotate_left
   ·rw [if_neg c7] at H
    have c7b0 := decide_eq_false c7
    clear c7
    replace H := zO H
    obtain ⟨t639, A13, H⟩ := H
    replace H := zO H
    obtain ⟨⟨t640, t641, t642⟩, A14, H⟩ := H
    try dsimp only at H
    obtain rfl := Option.some.inj H
    go_wp2_with (first | ((with_reducible refine gate_callee (f := 18) rfl ?_); refine goesL_ (some 11) rfl rfl Tryd.func18 (by kernel_rfl) rfl #[.pointer (some ⟨g622, 0, none⟩), .int .i64 5] rfl zT ?_; (with_reducible refine (spec_l1Below.calls g622 t619 x623001_1 x623002_1 5 t626 t627 t628 w _ ?side1 ?side2 A6.1).mono ?_); (case side1 => exact zB70); (case side2 => exact zB69); rintro e w15 ⟨rfl, hi, hb, hk⟩; refine ⟨_, rfl, ?_⟩; replace HO_4 := zM (Kd.R_mono (Kd.R_keep (IsS64.apart (show IsS64 w _ g622 t619 x623001_1 x623002_1 from zB70) (zR HO_4.1) (by decide)) hk (fun _ h => h.2)) (fun _ h => h.1)); replace HB := zM hb; replace HI622 := zM hi; clear hb hk hi; obtain ⟨Ao16, co16, eo16⟩ := Kd.R_slice HO_4.1; subst eo16) | ((with_reducible refine gate_callee (f := 13) rfl ?_); refine goesL_ (some 22) rfl rfl Tryd.func13 (by kernel_rfl) rfl #[.slice Ao16 x4_1.length co16] rfl zT ?_; (with_reducible refine (spec_TraceText.calls k1 _ _ x4_1 t639 _ ?side1 ?side2 A13.1).mono ?_); (case side1 => exact zC (Kd.R_reads' HO_4.1).2.2); (case side2 => exact (Kd.R_reads' HO_4.1).2.1); rintro e w17 ⟨rfl, hb⟩; refine ⟨_, rfl, ?_⟩; replace HO_4 := zM (Kd.R_below (zR HO_4.1) hb); replace HB := zM (below_step zB69 hb); replace HI622 := zM (IsS64.below zB70 hb); clear hb) | ((with_reducible refine gate_callee (f := 20) rfl ?_); refine goesL_ (some 23) rfl rfl Tryd.func20 (by kernel_rfl) rfl #[.pointer (some ⟨g622, 0, none⟩), .string t639] rfl zT ?_; (with_reducible refine (spec_l28Dent.calls g622 t619 t627 t628 t639 t640 t641 t642 w _ ?side1 ?side2 A14.1).mono ?_); (case side1 => exact zB70); (case side2 => exact zB69); rintro e w18 ⟨rfl, hi, hb, hk⟩; refine ⟨_, rfl, ?_⟩; replace HO_4 := zM (Kd.R_mono (Kd.R_keep (IsS64.apart (show IsS64 w _ g622 t619 t627 t628 from zB70) (zR HO_4.1) (by decide)) hk (fun _ h => h.2)) (fun _ h => h.1)); replace HB := zM hb; replace HI622 := zM hi; clear hb hk hi))
    go_ret
    exact ⟨zE, zB69⟩
   rw [if_pos c7] at H
   have c7b0 := decide_eq_true c7
   clear c7
   replace H := zO H
   obtain ⟨⟨t629, t630, t631, t632, t633, t634, t635⟩, A8, H⟩ := H
   try dsimp only at H
   replace H := zIn H
   obtain ⟨LMc9, H⟩ := H
   generalize hy636 : ((x4_1 ++ [(⟨t629, t630, t631, t632, t633⟩ : S31)]) : List (S31)) = y636 at H
   have Ny636 := zM hy636.symm
   clear hy636
   have H' := zM H
   clear H
   go_wp2_with (first | ((with_reducible refine gate_callee (f := 18) rfl ?_); refine goesL_ (some 11) rfl rfl Tryd.func18 (by kernel_rfl) rfl #[.pointer (some ⟨g622, 0, none⟩), .int .i64 5] rfl zT ?_; (with_reducible refine (spec_l1Below.calls g622 t619 x623001_1 x623002_1 5 t626 t627 t628 w _ ?side1 ?side2 A6.1).mono ?_); (case side1 => exact zB70); (case side2 => exact zB69); rintro e w10 ⟨rfl, hi, hb, hk⟩; refine ⟨_, rfl, ?_⟩; replace HO_4 := zM (Kd.R_mono (Kd.R_keep (IsS64.apart (show IsS64 w _ g622 t619 x623001_1 x623002_1 from zB70) (zR HO_4.1) (by decide)) hk (fun _ h => h.2)) (fun _ h => h.1)); replace HB := zM hb; replace HI622 := zM hi; clear hb hk hi) | ((with_reducible refine gate_callee (f := 19) rfl ?_); refine goesL_ (some 17) rfl rfl Tryd.func19 (by kernel_rfl) rfl #[.pointer (some ⟨g622, 0, none⟩)] rfl zT ?_; (with_reducible refine (spec_l19DrawEvent.calls g622 t619 t627 t628 t629 t630 t631 t632 t633 t634 t635 w _ ?side1 ?side2 A8.1).mono ?_); (case side1 => exact zB70); (case side2 => exact zB69); rintro e w11 ⟨rfl, hi, hb, hk⟩; refine ⟨_, rfl, ?_⟩; replace HO_4 := zM (Kd.R_mono (Kd.R_keep (IsS64.apart (show IsS64 w _ g622 t619 t627 t628 from zB70) (zR HO_4.1) (by decide)) hk (fun _ h => h.2)) (fun _ h => h.1)); replace HB := zM hb; replace HI622 := zM hi; clear hb hk hi) | ((with_reducible refine gate_builtin (b := .append) (xs := #[.tmp 15, .tmp 18]) rfl ?_); at_builtin; refine Kd.R_append k31 (w0 := w) w.heap.size rfl (.tmp 15) (.tmp 18) 24 31 (.agg #[(.int .i64 0), (.int .i64 0), (.int .i64 0), (.int .i64 0), (.int .i64 0)]) 40 rfl Tryd.underlying24 info31 rfl (by decide) (by omega) u4 x4_1 (⟨t629, t630, t631, t632, t633⟩ : S31) [.int .i64 t629, .int .i64 t630, .int .i64 t631, .int .i64 t632, .int .i64 t633] (fun _ => True) (fun _ => False) rfl rfl ?aP (fun _ hk => hk.elim) ?aF ?aO ?aB ?aS ?aL ?_; (case aP => exact k31_mkM _ _ _ (⟨t629, t630, t631, t632, t633⟩ : S31)); (case aB => exact zB69); (case aF => exact (fun _ _ => trivial)); (case aO => exact (zR HO_4.1)); (case aS => exact (below_size zB69)); (case aL => have := LMc9.out; omega); intro v637 w12 ho hb hg hat; rw [← Ny636.1] at ho; replace HI622 := zM (IsS64.grown (show IsS64 w _ g622 t619 t634 t635 from zB70) hg (IsS64.own_ne HI622.1 HO_4.1 (by decide))); replace HB := zM hb; have HO638 := zM ho; clear HO_4; clear ho hb hg hat))
   go_roundg k1
   case measure => have := HK1.1; omega
   case rel => exact ⟨(y636), (wrap64 (x5_1 + 1)), (t634), (t635), zJJ, H', ⟨by have := HK1.1; omega⟩, ⟨zR HO638.1⟩, ⟨zB70⟩, ⟨zB69⟩⟩

/-! ### strings_explode: function 52 -/
def strings_explode.f (a0 : ByteArray) (a1 : Int) : Option (List ByteArray) := none
theorem strings_explode.calls (a0 : ByteArray) (a1 : Int) (r : List ByteArray) (w : World) (h : strings_explode.f a0 a1 = some r) :
  Calls Tryd.prog 52 #[.string a0, .int .i64 a1] w fun e w' => ∃ v0_ : Value, e = .returned (v0_) ∧ Kd.R Kd.string 9 w' w.heap.size (fun _ => True) v0_ r ∧ Below w.heap.size w w' := absurd h (by unfold strings_explode.f; simp)

/-! ### strings_Count: function 53 -/
def sh.lays138_ren : Go.Shelf.Ren := ⟨fun | 138 => 53 | 195 => 69 | 218 => 71 | 143 => 54 | 219 => 51 | 217 => 65 | 225 => 66 | 224 => 67 | 267 => 68 | 266 => 77 | 314 => 78 | n => n, fun | 9 => 9 | 3 => 3 | 4 => 4 | 5 => 5 | 0 => 0 | 46 => 87 | 146 => 112 | 51 => 111 | n => n, fun | 1 => 0 | n => n⟩
theorem sh.lays138 : Go.Proofs.Lays.n138 Tryd.prog sh.lays138_ren := {
 mixed := by kernel_rfl
 f138 := Tryd.func53.trans (congrArg some (by kernel_rfl))
 f143 := Tryd.func54.trans (congrArg some (by kernel_rfl))
 f195 := Tryd.func69.trans (congrArg some (by kernel_rfl))
 f217 := Tryd.func65.trans (congrArg some (by kernel_rfl))
 f218 := Tryd.func71.trans (congrArg some (by kernel_rfl))
 f219 := Tryd.func51.trans (congrArg some (by kernel_rfl))
 f224 := Tryd.func67.trans (congrArg some (by kernel_rfl))
 f225 := Tryd.func66.trans (congrArg some (by kernel_rfl))
 f266 := Tryd.func77.trans (congrArg some (by kernel_rfl))
 f267 := Tryd.func68.trans (congrArg some (by kernel_rfl))
 f314 := Tryd.func78.trans (congrArg some (by kernel_rfl))
 t0 := Tryd.underlying0
 a0 := Tryd.isAgg0
 z0 := Tryd.sizeOf0
 v0 := Tryd.zeroValue0
 t3 := Tryd.underlying3
 a3 := Tryd.isAgg3
 z3 := Tryd.sizeOf3
 v3 := Tryd.zeroValue3
 t4 := Tryd.underlying4
 a4 := Tryd.isAgg4
 z4 := Tryd.sizeOf4
 v4 := Tryd.zeroValue4
 t5 := Tryd.underlying5
 a5 := Tryd.isAgg5
 z5 := Tryd.sizeOf5
 v5 := Tryd.zeroValue5
 t9 := Tryd.underlying9
 a9 := Tryd.isAgg9
 z9 := Tryd.sizeOf9
 v9 := Tryd.zeroValue9
 t46 := Tryd.underlying87
 a46 := Tryd.isAgg87
 z46 := Tryd.sizeOf87
 v46 := Tryd.zeroValue87
 t51 := Tryd.underlying111
 a51 := Tryd.isAgg111
 z51 := Tryd.sizeOf111
 v51 := Tryd.zeroValue111
 t146 := Tryd.underlying112
 a146 := Tryd.isAgg112
 z146 := Tryd.sizeOf112
 v146 := Tryd.zeroValue112
 g1 := by kernel_rfl }
open Go.RowKit Go.Lib in
theorem sh.strings_Count_one (s : ByteArray) (c : UInt8) (w : World) :
  Calls Tryd.prog 53 #[.string s, .string ⟨#[c]⟩] w fun e w' => e = .returned (.int .i64 (Lib.countByte s.data.toList c)) ∧ w' = w := Any.strings_Count_one sh.lays138 s c w
theorem one_byte2 {b : ByteArray} (h : b.size = 1) : b = ⟨#[b.data.getD 0 0]⟩ := by
 obtain ⟨⟨l⟩⟩ := b
 match l, h with
 | [x], _ => rfl
def byteCount (s : ByteArray) (c : UInt8) : Int := Lib.countByte s.data.toList c
def strings_Count.f (a0 a1 : ByteArray) : Option Int := if a1.size = 1 then some (byteCount a0 (a1.data.getD 0 0)) else none
theorem strings_Count.calls (a0 a1 : ByteArray) (r : Int) (w : World) (h : strings_Count.f a0 a1 = some r) :
  Calls Tryd.prog 53 #[.string a0, .string a1] w fun e w' => e = .returned (.int .i64 r) ∧ Drawn0 w w' := by
 unfold strings_Count.f at h
 by_cases hl : a1.size = 1
 rotate_left
 ·rw [if_neg hl] at h
  exact absurd h (by simp)
 rw [if_pos hl] at h
 obtain rfl := Option.some.inj h
 rw [one_byte2 hl]
 exact (sh.strings_Count_one a0 _ w).mono fun e w' ⟨he, hw⟩ => ⟨he, hw ▸ Drawn0.refl _⟩

/-! ### stringslite_Index: function 51 -/
def sh.lays219_ren : Go.Shelf.Ren := ⟨fun | 219 => 51 | 217 => 65 | 225 => 66 | 224 => 67 | 267 => 68 | 266 => 77 | 314 => 78 | n => n, fun | 9 => 9 | 3 => 3 | 4 => 4 | 5 => 5 | 46 => 87 | 146 => 112 | 51 => 111 | n => n, fun | 1 => 0 | n => n⟩
theorem sh.lays219 : Go.Proofs.Lays.n219 Tryd.prog sh.lays219_ren := {
 mixed := by kernel_rfl
 f217 := Tryd.func65.trans (congrArg some (by kernel_rfl))
 f219 := Tryd.func51.trans (congrArg some (by kernel_rfl))
 f224 := Tryd.func67.trans (congrArg some (by kernel_rfl))
 f225 := Tryd.func66.trans (congrArg some (by kernel_rfl))
 f266 := Tryd.func77.trans (congrArg some (by kernel_rfl))
 f267 := Tryd.func68.trans (congrArg some (by kernel_rfl))
 f314 := Tryd.func78.trans (congrArg some (by kernel_rfl))
 t3 := Tryd.underlying3
 a3 := Tryd.isAgg3
 z3 := Tryd.sizeOf3
 v3 := Tryd.zeroValue3
 t4 := Tryd.underlying4
 a4 := Tryd.isAgg4
 z4 := Tryd.sizeOf4
 v4 := Tryd.zeroValue4
 t5 := Tryd.underlying5
 a5 := Tryd.isAgg5
 z5 := Tryd.sizeOf5
 v5 := Tryd.zeroValue5
 t9 := Tryd.underlying9
 a9 := Tryd.isAgg9
 z9 := Tryd.sizeOf9
 v9 := Tryd.zeroValue9
 t46 := Tryd.underlying87
 a46 := Tryd.isAgg87
 z46 := Tryd.sizeOf87
 v46 := Tryd.zeroValue87
 t51 := Tryd.underlying111
 a51 := Tryd.isAgg111
 z51 := Tryd.sizeOf111
 v51 := Tryd.zeroValue111
 t146 := Tryd.underlying112
 a146 := Tryd.isAgg112
 z146 := Tryd.sizeOf112
 v146 := Tryd.zeroValue112
 g1 := by kernel_rfl }
open Go.RowKit Go.Lib in
theorem sh.stringslite_Index_one (s : ByteArray) (c : UInt8) (w : World) :
  Calls Tryd.prog 51 #[.string s, .string ⟨#[c]⟩] w fun e w' => e = .returned (.int .i64 (Lib.indexByte s.data.toList c)) ∧ w' = w := Any.stringslite_Index_one sh.lays219 s c w
def byteIdx (s : ByteArray) (c : UInt8) : Int := Lib.indexByte s.data.toList c
def stringslite_Index.f (a0 a1 : ByteArray) : Option Int := if a1.size = 1 then some (byteIdx a0 (a1.data.getD 0 0)) else none
theorem one_byte {b : ByteArray} (h : b.size = 1) : b = ⟨#[b.data.getD 0 0]⟩ := by
 obtain ⟨⟨l⟩⟩ := b
 match l, h with
 | [x], _ => rfl
theorem stringslite_Index.calls (a0 a1 : ByteArray) (r : Int) (w : World) (h : stringslite_Index.f a0 a1 = some r) :
  Calls Tryd.prog 51 #[.string a0, .string a1] w fun e w' => e = .returned (.int .i64 r) ∧ Drawn0 w w' := by
 unfold stringslite_Index.f at h
 by_cases hl : a1.size = 1
 rotate_left
 ·rw [if_neg hl] at h
  exact absurd h (by simp)
 rw [if_pos hl] at h
 obtain rfl := Option.some.inj h
 rw [one_byte hl]
 exact (sh.stringslite_Index_one a0 _ w).mono fun e w' ⟨he, hw⟩ => ⟨he, hw ▸ Drawn0.refl _⟩

/-! ### strings_Index: function 54 -/
def strings_Index.f (a0 : ByteArray) (a1 : ByteArray) : Option (Int) := (stringslite_Index.f a0 a1).bind fun t643 => (some t643)
theorem strings_Index.calls (a0 : ByteArray) (a1 : ByteArray) (r : Int) (w : World) (h : strings_Index.f a0 a1 = some r) :
  Calls Tryd.prog 54 #[.string a0, .string a1] w fun e w' => e = .returned (.int .i64 r) ∧ Drawn0 w w' := by
 unfold strings_Index.f at h
 have H := h
 clear h
 replace H := zO H
 obtain ⟨t643, A3, H⟩ := H
 obtain rfl := Option.some.inj H
 go_enter Tryd.func54, Tryd.ntmps54
 go_wp2_with (first | ((with_reducible refine gate_callee (f := 51) rfl ?_); refine goesL_ (some 7) rfl rfl Tryd.func51 (by kernel_rfl) rfl #[.string a0, .string a1] rfl zT ?_; (with_reducible refine (stringslite_Index.calls a0 a1 t643 _ A3.1).mono ?_); rintro e w' ⟨rfl, ⟨nd, rfl⟩⟩; refine ⟨_, rfl, ?_⟩))
 go_ret
 exact ⟨zJJ, zDD⟩

end Go.Proofs.YtaakcbgpmabaaaaDoor.PFnStories
