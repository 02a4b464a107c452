-- made by wip/tools/myprint.py out of the seat's translation
import Derived.Test.YtaakcbgpmabaaaaDoorPFnStoriesx0
import Derived.Test.YtaakcbgpmabaaaaDoorPFnStoriesx2
import Derived.Test.YtaakcbgpmabaaaaDoorPFnStoriesx14
import Derived.Test.YtaakcbgpmabaaaaDoorPFnStoriesx15
namespace Go.Proofs.YtaakcbgpmabaaaaDoor.PFnStories
open Go.RowKit Go.Proofs.YtaakcbgpmabaaaaDoorW.PrintWords Go.Proofs.YtaakcbgpmabaaaaDoorW.PrintLast Go.Proofs.YtaakcbgpmabaaaaDoorW.PrintMore
attribute [local go_sem] max2_int min2_int max_two min_two max_three min_three max_four min_four   -- for this text's walks alone
set_option linter.unusedVariables false
set_option linter.unusedSimpArgs false
set_option maxHeartbeats 8000000
set_option maxRecDepth 100000
abbrev zq16_0 : Array Bool := #[true, true, true, true, true, true, true, true, true, true, true, true, true, true, true, true, true, true, true, true, true, true, false]
abbrev zq16_1 : Array Bool := #[true, true, true, true, true, true, true, true, true, true, true, true, true, true, true, true, true, true, true, true, true, false, false]
abbrev zq16_2 : Array Bool := #[true, true, true, true, true, true, true, true, true, true, true, true, true, true, true, true, true, true, true, false, false, true, false]
abbrev zq16_3 : Array Bool := #[true, true, true, true, true, true, true, true, true, true, true, true, true, true, true, true, true, true, true, false, false, false, false]
abbrev zq16_4 : Array Bool := #[true, true, true, true, true, true, true, true, true, true, true, true, true, true, true, false, true, true, true, false, false, true, false]
abbrev zq16_5 : Array Bool := #[true, true, true, true, true, true, true, true, true, true, true, true, true, true, true, false, true, true, true, false, false, false, false]
abbrev zq16_6 : Array Bool := #[true, true, true, true, true, true, true, true, true, true, true, false, true, true, true, false, true, true, true, false, false, true, false]
abbrev zq16_7 : Array Bool := #[true, true, true, true, true, true, true, true, true, true, true, false, true, true, true, false, true, true, true, false, false, false, false]
abbrev zq16_8 : Array Bool := #[true, true, true, true, true, true, true, false, true, true, true, false, true, true, true, false, true, true, true, false, false, true, false]
abbrev zq16_9 : Array Bool := #[true, true, true, true, true, true, true, false, true, true, true, false, true, true, true, false, true, true, true, false, false, false, false]
abbrev zq16_10 : Array Bool := #[true, true, true, false, true, true, true, false, true, true, true, false, true, true, true, false, true, true, true, false, false, true, false]

/-! ### spec_EventRead: function 12 -/
def spec_EventRead.j0 : Nat → Bool → Int → Int → Int → Int → Int → Option (Int × Int × Int × Int × Int × Bool)
 | 0, _, _, _, _, _, _ => none
 | k + 1, x57, x720000, x720001, x720002, x720003, x720004 => if x57 = true then (some (0, 0, 0, 0, 0, false)) else (some (x720000, x720001, x720002, x720003, x720004, true))
def spec_EventRead.f (k : Nat) (a0 : ByteArray) : Option (Int × Int × Int × Int × Int × Bool) := (spec_l28Cut.f k a0 32).bind fun t706 => (if (t706.length : Int) = 5 then (if 0 < (t706.length : Int) then ((spec_l28Num.f k (rdOf ByteArray.empty t706 0)).bind fun t710 => (if 1 < (t706.length : Int) then ((spec_l28Num.f k (rdOf ByteArray.empty t706 1)).bind fun t712 => (if 2 < (t706.length : Int) then ((spec_l28Num.f k (rdOf ByteArray.empty t706 2)).bind fun t714 => (if 3 < (t706.length : Int) then ((spec_l28Num.f k (rdOf ByteArray.empty t706 3)).bind fun t716 => (if 4 < (t706.length : Int) then ((spec_l28Num.f k (rdOf ByteArray.empty t706 4)).bind fun t718 => ((spec_l1In.f t710 0 99).bind fun t720 => (if t720 = true then ((spec_l1In.f t712 0 99).bind fun t721 => (if t721 = true then (if t714 < (-1) then (spec_EventRead.j0 k true t710 t712 t714 t716 t718) else (if t716 < (-1) then (spec_EventRead.j0 k true t710 t712 t714 t716 t718) else (spec_EventRead.j0 k (decide (t718 < (-1))) t710 t712 t714 t716 t718))) else (spec_EventRead.j0 k true t710 t712 t714 t716 t718))) else (spec_EventRead.j0 k true t710 t712 t714 t716 t718)))) else (none))) else (none))) else (none))) else (none))) else (none)) else (some (0, 0, 0, 0, 0, false)))
theorem spec_EventRead.mono_l : ∀ k, (∀ y0 y1 y2 y3 y4 y5, LeO (spec_EventRead.j0 k y0 y1 y2 y3 y4 y5) (spec_EventRead.j0 (k + 1) y0 y1 y2 y3 y4 y5))
 | 0 => fun _ _ _ _ _ _ r h => by simp [spec_EventRead.j0] at h
 | k + 1 => by
  have ih0 := spec_EventRead.mono_l k
  ·intros
   unfold spec_EventRead.j0
   have mo0 := @spec_l28Cut.mono
   have mo1 := @spec_l28Num.mono
   exact zL
theorem spec_EventRead.mono : ∀ a0 k, LeO (spec_EventRead.f k a0) (spec_EventRead.f (k + 1) a0) := by
 intro a0 k
 have ih0 := spec_EventRead.mono_l k
 unfold spec_EventRead.f
 have mo0 := @spec_l28Cut.mono
 have mo1 := @spec_l28Num.mono
 exact zL
def spec_EventRead.T4 : Bool × List (List Nat × List Nat) := (true, [([], []), ([0], [0]), ([1], [1]), ([2], [2]), ([], []), ([4], [4]), ([5], [5]), ([6, 3], [6]), ([], []), ([8], [8]), ([9], [9]), ([10, 7], [10]), ([], []), ([12], [12]), ([13], [13]), ([14, 11], [14]), ([], []), ([16], [16]), ([17], [17]), ([18, 15], [18]), ([3, 7, 11, 15, 19], [3, 7, 11, 15, 19]), ([], []), ([21, 20, 19, 0, 1, 2, 3, 4, 5, 6, 7, 8, 9, 10, 11, 12, 13, 14, 15, 16, 17, 18, 19, 20, 21], [20, 21])])
def spec_EventRead.B4 : List Nat := [0, 1, 3, 7, 0, 16, 48, 127, 0, 256, 768, 2047, 0, 4096, 12288, 32767, 0, 65536, 196608, 524287, 1048575, 0, 4194303]
theorem spec_EventRead.tab4 : rtab .any (opsOf Tryd.f12 4) = spec_EventRead.T4 := by kernel_rfl
theorem spec_EventRead.bits4 : waitsOk spec_EventRead.T4.2 spec_EventRead.B4 = true := by kernel_rfl
theorem spec_EventRead.calls (k : Nat) (a0 : ByteArray) (r1 : Int) (r2 : Int) (r3 : Int) (r4 : Int) (r5 : Int) (r6 : Bool) (w : World) (h : spec_EventRead.f k a0 = some (r1, r2, r3, r4, r5, r6)) :
  Calls Tryd.prog 12 #[.string a0] w fun e w' => e = .returned (.tuple #[.agg #[.int .i64 r1, .int .i64 r2, .int .i64 r3, .int .i64 r4, .int .i64 r5], .bool r6]) ∧ Below w.heap.size w w' := by
 have hu31 := Tryd.underlying31
 have HB := zM (Below.refl w.heap.size w)
 unfold spec_EventRead.f at h
 have H := h
 clear h
 replace H := zO H
 obtain ⟨t706, A2, H⟩ := H
 by_cases c3 : (t706.length : Int) = 5
 rotate_left
 ·rw [if_neg c3] at H
  have c3b0 : ((t706.length : Int) == 5) = false := beq_eq_false_iff_ne.mpr c3
  have c3b1 : ((t706.length : Int) != 5) = true := bne_iff_ne.mpr c3
  simp only [Option.some.injEq, Prod.mk.injEq] at H
  obtain ⟨rfl, rfl, rfl, rfl, rfl, rfl⟩ := H
  go_enter Tryd.func12, Tryd.ntmps12
  go_wp2_with (first | ((with_reducible refine zBx 2 31 #[.int .i64 0, .int .i64 0, .int .i64 0, .int .i64 0, .int .i64 0] ?_); intro gb705 hg w53 hbox hb; have BK705 := zM hbox; have GW705 := zM (zW hg (below_size zB3)); have GE705 := zM (zW hg (below_size zB3)); replace HB := zM (below_step zB3 hb); clear hb hbox hg) | ((with_reducible refine gate_callee (f := 22) rfl ?_); refine goesL_ (some 7) rfl rfl Tryd.func22 (by kernel_rfl) rfl #[.string a0, .int .u8 32] rfl zT ?_; (with_reducible refine (spec_l28Cut.calls k a0 32 t706 _ A2.1).mono ?_); rintro e w54 ⟨v707, rfl, ho0, hb⟩; refine ⟨_, rfl, ?_⟩; have HO708 := zM (Kd.R_lower ho0 (below_size zB3)); replace BK705 := zM (zb BK705.1 hb); replace HB := zM (below_step zB3 hb); clear hb ho0; obtain ⟨Ao55, co55, eo55⟩ := Kd.R_slice HO708.1; subst eo55; have hcz56 := zc_5 (w := w54) BK705.1))
  refine bodyPost_ret (results_ct rfl _ _ gb705 31 #[.int .i64 0, .int .i64 0, .int .i64 0, .int .i64 0, .int .i64 0] (0, 0) _ rfl (by exact zp5 (zK BK705.1)) Tryd.underlying31 rfl (by kernel_rfl)) rfl ?_
  exact ⟨zE, zB3⟩
 rw [if_pos c3] at H
 have c3b0 : ((t706.length : Int) == 5) = true := beq_iff_eq.mpr c3
 have c3b1 : ((t706.length : Int) != 5) = false := bne_eq_false_iff_eq.mpr c3
 clear c3
 replace H := zIp H
 obtain ⟨c4, H⟩ := H
 have c4b0 := decide_eq_true c4
 have c4b1 : decide (0 < t706.length) = true := decide_eq_true (by omega)
 clear c4
 replace H := zO H
 obtain ⟨t710, A5, H⟩ := H
 replace H := zIp H
 obtain ⟨c6, H⟩ := H
 have c6b0 := decide_eq_true c6
 have c6b1 : decide (1 < t706.length) = true := decide_eq_true (by omega)
 clear c6
 replace H := zO H
 obtain ⟨t712, A7, H⟩ := H
 replace H := zIp H
 obtain ⟨c8, H⟩ := H
 have c8b0 := decide_eq_true c8
 have c8b1 : decide (2 < t706.length) = true := decide_eq_true (by omega)
 clear c8
 replace H := zO H
 obtain ⟨t714, A9, H⟩ := H
 replace H := zIp H
 obtain ⟨c10, H⟩ := H
 have c10b0 := decide_eq_true c10
 have c10b1 : decide (3 < t706.length) = true := decide_eq_true (by omega)
 clear c10
 replace H := zO H
 obtain ⟨t716, A11, H⟩ := H
 replace H := zIp H
 obtain ⟨c12, H⟩ := H
 have c12b0 := decide_eq_true c12
 have c12b1 : decide (4 < t706.length) = true := decide_eq_true (by omega)
 clear c12
 replace H := zO H
 obtain ⟨t718, A13, H⟩ := H
 have HC14 := zM H
 clear H
 go_enter Tryd.func12, Tryd.ntmps12
 try go_wp2_with (first | ((with_reducible refine zBx 2 31 #[.int .i64 0, .int .i64 0, .int .i64 0, .int .i64 0, .int .i64 0] ?_); intro gb705 hg w15 hbox hb; have BK705 := zM hbox; have GW705 := zM (zW hg (below_size zB3)); have GE705 := zM (zW hg (below_size zB3)); replace HB := zM (below_step zB3 hb); clear hb hbox hg) | ((with_reducible refine gate_callee (f := 22) rfl ?_); refine goesL_ (some 7) rfl rfl Tryd.func22 (by kernel_rfl) rfl #[.string a0, .int .u8 32] rfl zT ?_; (with_reducible refine (spec_l28Cut.calls k a0 32 t706 _ A2.1).mono ?_); rintro e w16 ⟨v707, rfl, ho0, hb⟩; refine ⟨_, rfl, ?_⟩; have HO708 := zM (Kd.R_lower ho0 (below_size zB3)); replace BK705 := zM (zb BK705.1 hb); replace HB := zM (below_step zB3 hb); clear hb ho0; obtain ⟨Ao17, co17, eo17⟩ := Kd.R_slice HO708.1; subst eo17))
 replace HO708 := zM (Kd.R_drew HO708.1)
 replace BK705 := zM (blk_drew BK705.1)
 replace HB := zM (below_drew1 HB.1)
 have p709 : 0 ≤ (0 : Int) := (by omega)
 have q709 : 0 < (t706.length : Int) := zA
 obtain ⟨ad709, e709, hx709_0⟩ := Kd.at_string (Kd.R_reads' HO708.1).2.2 0 p709 q709
 cases e709
 have qi709 : (0 < t706.length) = True := eq_true (by omega)
 (try rw [show ((0 : Int)).toNat = 0 from rfl] at hx709_0)
 (try rw [Addr.add_zero'] at hx709_0)
 replace p709 := eq_true p709
 replace q709 := eq_true q709
 have p711 : 0 ≤ (1 : Int) := (by omega)
 have q711 : 1 < (t706.length : Int) := zA
 obtain ⟨ad711, e711, hx711_0⟩ := Kd.at_string (Kd.R_reads' HO708.1).2.2 1 p711 q711
 obtain rfl : ad709 = ad711 := (by injection e711)
 (try simp only [show (1 : Int).toNat = 1 from rfl, Nat.reduceMul, Nat.reduceEqDiff, Go.Addr.add, ↓reduceIte] at hx711_0)
 have qi711 : (1 < t706.length) = True := eq_true (by omega)
 (try rw [show ((1 : Int)).toNat = 1 from rfl] at hx711_0)
 replace p711 := eq_true p711
 replace q711 := eq_true q711
 have p713 : 0 ≤ (2 : Int) := (by omega)
 have q713 : 2 < (t706.length : Int) := zA
 obtain ⟨ad713, e713, hx713_0⟩ := Kd.at_string (Kd.R_reads' HO708.1).2.2 2 p713 q713
 obtain rfl : ad709 = ad713 := (by injection e713)
 (try simp only [show (2 : Int).toNat = 2 from rfl, Nat.reduceMul, Nat.reduceEqDiff, Go.Addr.add, ↓reduceIte] at hx713_0)
 have qi713 : (2 < t706.length) = True := eq_true (by omega)
 (try rw [show ((2 : Int)).toNat = 2 from rfl] at hx713_0)
 replace p713 := eq_true p713
 replace q713 := eq_true q713
 have p715 : 0 ≤ (3 : Int) := (by omega)
 have q715 : 3 < (t706.length : Int) := zA
 obtain ⟨ad715, e715, hx715_0⟩ := Kd.at_string (Kd.R_reads' HO708.1).2.2 3 p715 q715
 obtain rfl : ad709 = ad715 := (by injection e715)
 (try simp only [show (3 : Int).toNat = 3 from rfl, Nat.reduceMul, Nat.reduceEqDiff, Go.Addr.add, ↓reduceIte] at hx715_0)
 have qi715 : (3 < t706.length) = True := eq_true (by omega)
 (try rw [show ((3 : Int)).toNat = 3 from rfl] at hx715_0)
 replace p715 := eq_true p715
 replace q715 := eq_true q715
 have p717 : 0 ≤ (4 : Int) := (by omega)
 have q717 : 4 < (t706.length : Int) := zA
 obtain ⟨ad717, e717, hx717_0⟩ := Kd.at_string (Kd.R_reads' HO708.1).2.2 4 p717 q717
 obtain rfl : ad709 = ad717 := (by injection e717)
 (try simp only [show (4 : Int).toNat = 4 from rfl, Nat.reduceMul, Nat.reduceEqDiff, Go.Addr.add, ↓reduceIte] at hx717_0)
 have qi717 : (4 < t706.length) = True := eq_true (by omega)
 (try rw [show ((4 : Int)).toNat = 4 from rfl] at hx717_0)
 replace p717 := eq_true p717
 replace q717 := eq_true q717
 refine start_ (n := 23) (S := fun w' => w'.cell? ad709 = some (.string (rdOf ByteArray.empty t706 0)) ∧ w'.cell? ⟨ad709.block, ad709.off + 1, none⟩ = some (.string (rdOf ByteArray.empty t706 1)) ∧ w'.cell? ⟨ad709.block, ad709.off + 2, none⟩ = some (.string (rdOf ByteArray.empty t706 2)) ∧ w'.cell? ⟨ad709.block, ad709.off + 3, none⟩ = some (.string (rdOf ByteArray.empty t706 3)) ∧ w'.cell? ⟨ad709.block, ad709.off + 4, none⟩ = some (.string (rdOf ByteArray.empty t706 4))) (ds := []) #[false, false, false, false, false, false, false, false, false, false, false, false, false, false, false, false, false, false, false, false, false, false, false] (by kernel_rfl) rfl rfl ⟨hx709_0, hx711_0, hx713_0, hx715_0, hx717_0⟩ (fun hHeld => ?_); refine with_tabW spec_EventRead.tab4 spec_EventRead.bits4 (fun HT_ HW_ => ?_)
 generalize w16.drew = w18 at HO708 BK705 HB hx709_0 hx711_0 hx713_0 hx715_0 hx717_0 hHeld ⊢
 refine zPu 0 ?_
 refine zPu 1 ?_
 refine zPu 4 ?_
 refine zPu 5 ?_
 refine zPu 8 ?_
 refine zPu 9 ?_
 refine zPu 12 ?_
 refine zPu 13 ?_
 refine zPu 16 ?_
 refine zPu 17 ?_
 refine zTk5 2 hHeld ?_
 refine zTk5 6 hHeld ?_
 refine zTk5 10 hHeld ?_
 refine zTk5 14 hHeld ?_
 refine zTk5 18 hHeld ?_
 refine join_ (σ := Nat) 1 zq16_0 (fun s_ => [(15, .int .i64 t710), (19, .int .i64 t712), (23, .int .i64 t714), (27, .int .i64 t716), (31, .int .i64 t718), (5, .pointer (some ⟨s_, 0, none⟩)), (32, .agg #[.int .i64 t710, .int .i64 t712, .int .i64 t714, .int .i64 t716, .int .i64 t718])]) (fun s_ w' => (w'.cell? ad709 = some (.string (rdOf ByteArray.empty t706 0)) ∧ w'.cell? ⟨ad709.block, ad709.off + 1, none⟩ = some (.string (rdOf ByteArray.empty t706 1)) ∧ w'.cell? ⟨ad709.block, ad709.off + 2, none⟩ = some (.string (rdOf ByteArray.empty t706 2)) ∧ w'.cell? ⟨ad709.block, ad709.off + 3, none⟩ = some (.string (rdOf ByteArray.empty t706 3)) ∧ w'.cell? ⟨ad709.block, ad709.off + 4, none⟩ = some (.string (rdOf ByteArray.empty t706 4))) ∧ (Kd.R Kd.string 9 w' w.heap.size (fun _ => True) (.slice (some ad709) t706.length co17) t706) ∧ (w'.heap[gb705]? = some (.cells #[.int .i64 0, .int .i64 0, .int .i64 0, .int .i64 0, .int .i64 0] 31 (0, 0))) ∧ (w'.heap[s_]? = some (.cells #[.int .i64 0, .int .i64 0, .int .i64 0, .int .i64 0, .int .i64 0] 31 (0, 0))) ∧ (w.heap.size ≤ s_) ∧ (w.heap.size ≤ s_) ∧ (gb705 ≠ s_) ∧ (s_ ≠ gb705) ∧ (Below w.heap.size w w')) ?_ ?_
 rotate_left
 ·intro hJ3_7_11_15_19_21
  refine join_ (σ := Unit) 2 zq16_1 (fun s_ => [(15, .int .i64 t710), (19, .int .i64 t712), (23, .int .i64 t714), (27, .int .i64 t716), (31, .int .i64 t718), (32, .agg #[.int .i64 t710, .int .i64 t712, .int .i64 t714, .int .i64 t716, .int .i64 t718])]) (fun s_ w' => (w'.cell? ad709 = some (.string (rdOf ByteArray.empty t706 0)) ∧ w'.cell? ⟨ad709.block, ad709.off + 1, none⟩ = some (.string (rdOf ByteArray.empty t706 1)) ∧ w'.cell? ⟨ad709.block, ad709.off + 2, none⟩ = some (.string (rdOf ByteArray.empty t706 2)) ∧ w'.cell? ⟨ad709.block, ad709.off + 3, none⟩ = some (.string (rdOf ByteArray.empty t706 3)) ∧ w'.cell? ⟨ad709.block, ad709.off + 4, none⟩ = some (.string (rdOf ByteArray.empty t706 4))) ∧ (Kd.R Kd.string 9 w' w.heap.size (fun _ => True) (.slice (some ad709) t706.length co17) t706) ∧ (w'.heap[gb705]? = some (.cells #[.int .i64 0, .int .i64 0, .int .i64 0, .int .i64 0, .int .i64 0] 31 (0, 0))) ∧ (Below w.heap.size w w')) ?_ ?_
  rotate_left
  ·intro hJ3_7_11_15_19
   refine join_ (σ := Nat) 3 zq16_2 (fun s_ => [(15, .int .i64 t710), (19, .int .i64 t712), (23, .int .i64 t714), (27, .int .i64 t716), (5, .pointer (some ⟨s_, 0, none⟩))]) (fun s_ w' => (w'.cell? ad709 = some (.string (rdOf ByteArray.empty t706 0)) ∧ w'.cell? ⟨ad709.block, ad709.off + 1, none⟩ = some (.string (rdOf ByteArray.empty t706 1)) ∧ w'.cell? ⟨ad709.block, ad709.off + 2, none⟩ = some (.string (rdOf ByteArray.empty t706 2)) ∧ w'.cell? ⟨ad709.block, ad709.off + 3, none⟩ = some (.string (rdOf ByteArray.empty t706 3)) ∧ w'.cell? ⟨ad709.block, ad709.off + 4, none⟩ = some (.string (rdOf ByteArray.empty t706 4))) ∧ (Kd.R Kd.string 9 w' w.heap.size (fun _ => True) (.slice (some ad709) t706.length co17) t706) ∧ (w'.heap[gb705]? = some (.cells #[.int .i64 0, .int .i64 0, .int .i64 0, .int .i64 0, .int .i64 0] 31 (0, 0))) ∧ (w'.heap[s_]? = some (.cells #[.int .i64 0, .int .i64 0, .int .i64 0, .int .i64 0, .int .i64 0] 31 (0, 0))) ∧ (w.heap.size ≤ s_) ∧ (w.heap.size ≤ s_) ∧ (gb705 ≠ s_) ∧ (s_ ≠ gb705) ∧ (Below w.heap.size w w')) ?_ ?_
   rotate_left
   ·intro hJ3_7_11_15_21
    refine join_ (σ := Unit) 4 zq16_3 (fun s_ => [(15, .int .i64 t710), (19, .int .i64 t712), (23, .int .i64 t714), (27, .int .i64 t716)]) (fun s_ w' => (w'.cell? ad709 = some (.string (rdOf ByteArray.empty t706 0)) ∧ w'.cell? ⟨ad709.block, ad709.off + 1, none⟩ = some (.string (rdOf ByteArray.empty t706 1)) ∧ w'.cell? ⟨ad709.block, ad709.off + 2, none⟩ = some (.string (rdOf ByteArray.empty t706 2)) ∧ w'.cell? ⟨ad709.block, ad709.off + 3, none⟩ = some (.string (rdOf ByteArray.empty t706 3)) ∧ w'.cell? ⟨ad709.block, ad709.off + 4, none⟩ = some (.string (rdOf ByteArray.empty t706 4))) ∧ (Kd.R Kd.string 9 w' w.heap.size (fun _ => True) (.slice (some ad709) t706.length co17) t706) ∧ (w'.heap[gb705]? = some (.cells #[.int .i64 0, .int .i64 0, .int .i64 0, .int .i64 0, .int .i64 0] 31 (0, 0))) ∧ (Below w.heap.size w w')) ?_ ?_
    rotate_left
    ·intro hJ3_7_11_15
     refine join_ (σ := Nat) 4 zq16_4 (fun s_ => [(15, .int .i64 t710), (19, .int .i64 t712), (23, .int .i64 t714), (5, .pointer (some ⟨s_, 0, none⟩))]) (fun s_ w' => (w'.cell? ad709 = some (.string (rdOf ByteArray.empty t706 0)) ∧ w'.cell? ⟨ad709.block, ad709.off + 1, none⟩ = some (.string (rdOf ByteArray.empty t706 1)) ∧ w'.cell? ⟨ad709.block, ad709.off + 2, none⟩ = some (.string (rdOf ByteArray.empty t706 2)) ∧ w'.cell? ⟨ad709.block, ad709.off + 3, none⟩ = some (.string (rdOf ByteArray.empty t706 3)) ∧ w'.cell? ⟨ad709.block, ad709.off + 4, none⟩ = some (.string (rdOf ByteArray.empty t706 4))) ∧ (Kd.R Kd.string 9 w' w.heap.size (fun _ => True) (.slice (some ad709) t706.length co17) t706) ∧ (w'.heap[gb705]? = some (.cells #[.int .i64 0, .int .i64 0, .int .i64 0, .int .i64 0, .int .i64 0] 31 (0, 0))) ∧ (w'.heap[s_]? = some (.cells #[.int .i64 0, .int .i64 0, .int .i64 0, .int .i64 0, .int .i64 0] 31 (0, 0))) ∧ (w.heap.size ≤ s_) ∧ (w.heap.size ≤ s_) ∧ (gb705 ≠ s_) ∧ (s_ ≠ gb705) ∧ (Below w.heap.size w w')) ?_ ?_
     rotate_left
     ·intro hJ3_7_11_21
      refine join_ (σ := Unit) 5 zq16_5 (fun s_ => [(15, .int .i64 t710), (19, .int .i64 t712), (23, .int .i64 t714)]) (fun s_ w' => (w'.cell? ad709 = some (.string (rdOf ByteArray.empty t706 0)) ∧ w'.cell? ⟨ad709.block, ad709.off + 1, none⟩ = some (.string (rdOf ByteArray.empty t706 1)) ∧ w'.cell? ⟨ad709.block, ad709.off + 2, none⟩ = some (.string (rdOf ByteArray.empty t706 2)) ∧ w'.cell? ⟨ad709.block, ad709.off + 3, none⟩ = some (.string (rdOf ByteArray.empty t706 3)) ∧ w'.cell? ⟨ad709.block, ad709.off + 4, none⟩ = some (.string (rdOf ByteArray.empty t706 4))) ∧ (Kd.R Kd.string 9 w' w.heap.size (fun _ => True) (.slice (some ad709) t706.length co17) t706) ∧ (w'.heap[gb705]? = some (.cells #[.int .i64 0, .int .i64 0, .int .i64 0, .int .i64 0, .int .i64 0] 31 (0, 0))) ∧ (Below w.heap.size w w')) ?_ ?_
      rotate_left
      ·intro hJ3_7_11
       refine join_ (σ := Nat) 5 zq16_6 (fun s_ => [(15, .int .i64 t710), (19, .int .i64 t712), (5, .pointer (some ⟨s_, 0, none⟩))]) (fun s_ w' => (w'.cell? ad709 = some (.string (rdOf ByteArray.empty t706 0)) ∧ w'.cell? ⟨ad709.block, ad709.off + 1, none⟩ = some (.string (rdOf ByteArray.empty t706 1)) ∧ w'.cell? ⟨ad709.block, ad709.off + 2, none⟩ = some (.string (rdOf ByteArray.empty t706 2)) ∧ w'.cell? ⟨ad709.block, ad709.off + 3, none⟩ = some (.string (rdOf ByteArray.empty t706 3)) ∧ w'.cell? ⟨ad709.block, ad709.off + 4, none⟩ = some (.string (rdOf ByteArray.empty t706 4))) ∧ (Kd.R Kd.string 9 w' w.heap.size (fun _ => True) (.slice (some ad709) t706.length co17) t706) ∧ (w'.heap[gb705]? = some (.cells #[.int .i64 0, .int .i64 0, .int .i64 0, .int .i64 0, .int .i64 0] 31 (0, 0))) ∧ (w'.heap[s_]? = some (.cells #[.int .i64 0, .int .i64 0, .int .i64 0, .int .i64 0, .int .i64 0] 31 (0, 0))) ∧ (w.heap.size ≤ s_) ∧ (w.heap.size ≤ s_) ∧ (gb705 ≠ s_) ∧ (s_ ≠ gb705) ∧ (Below w.heap.size w w')) ?_ ?_
       rotate_left
       ·intro hJ3_7_21
        refine join_ (σ := Unit) 6 zq16_7 (fun s_ => [(15, .int .i64 t710), (19, .int .i64 t712)]) (fun s_ w' => (w'.cell? ad709 = some (.string (rdOf ByteArray.empty t706 0)) ∧ w'.cell? ⟨ad709.block, ad709.off + 1, none⟩ = some (.string (rdOf ByteArray.empty t706 1)) ∧ w'.cell? ⟨ad709.block, ad709.off + 2, none⟩ = some (.string (rdOf ByteArray.empty t706 2)) ∧ w'.cell? ⟨ad709.block, ad709.off + 3, none⟩ = some (.string (rdOf ByteArray.empty t706 3)) ∧ w'.cell? ⟨ad709.block, ad709.off + 4, none⟩ = some (.string (rdOf ByteArray.empty t706 4))) ∧ (Kd.R Kd.string 9 w' w.heap.size (fun _ => True) (.slice (some ad709) t706.length co17) t706) ∧ (w'.heap[gb705]? = some (.cells #[.int .i64 0, .int .i64 0, .int .i64 0, .int .i64 0, .int .i64 0] 31 (0, 0))) ∧ (Below w.heap.size w w')) ?_ ?_
        rotate_left
        ·intro hJ3_7
         refine join_ (σ := Nat) 6 zq16_8 (fun s_ => [(15, .int .i64 t710), (5, .pointer (some ⟨s_, 0, none⟩))]) (fun s_ w' => (w'.cell? ad709 = some (.string (rdOf ByteArray.empty t706 0)) ∧ w'.cell? ⟨ad709.block, ad709.off + 1, none⟩ = some (.string (rdOf ByteArray.empty t706 1)) ∧ w'.cell? ⟨ad709.block, ad709.off + 2, none⟩ = some (.string (rdOf ByteArray.empty t706 2)) ∧ w'.cell? ⟨ad709.block, ad709.off + 3, none⟩ = some (.string (rdOf ByteArray.empty t706 3)) ∧ w'.cell? ⟨ad709.block, ad709.off + 4, none⟩ = some (.string (rdOf ByteArray.empty t706 4))) ∧ (Kd.R Kd.string 9 w' w.heap.size (fun _ => True) (.slice (some ad709) t706.length co17) t706) ∧ (w'.heap[gb705]? = some (.cells #[.int .i64 0, .int .i64 0, .int .i64 0, .int .i64 0, .int .i64 0] 31 (0, 0))) ∧ (w'.heap[s_]? = some (.cells #[.int .i64 0, .int .i64 0, .int .i64 0, .int .i64 0, .int .i64 0] 31 (0, 0))) ∧ (w.heap.size ≤ s_) ∧ (w.heap.size ≤ s_) ∧ (gb705 ≠ s_) ∧ (s_ ≠ gb705) ∧ (Below w.heap.size w w')) ?_ ?_
         rotate_left
         ·intro hJ3_21
          refine join_ (σ := Unit) 7 zq16_9 (fun s_ => [(15, .int .i64 t710)]) (fun s_ w' => (w'.cell? ad709 = some (.string (rdOf ByteArray.empty t706 0)) ∧ w'.cell? ⟨ad709.block, ad709.off + 1, none⟩ = some (.string (rdOf ByteArray.empty t706 1)) ∧ w'.cell? ⟨ad709.block, ad709.off + 2, none⟩ = some (.string (rdOf ByteArray.empty t706 2)) ∧ w'.cell? ⟨ad709.block, ad709.off + 3, none⟩ = some (.string (rdOf ByteArray.empty t706 3)) ∧ w'.cell? ⟨ad709.block, ad709.off + 4, none⟩ = some (.string (rdOf ByteArray.empty t706 4))) ∧ (Kd.R Kd.string 9 w' w.heap.size (fun _ => True) (.slice (some ad709) t706.length co17) t706) ∧ (w'.heap[gb705]? = some (.cells #[.int .i64 0, .int .i64 0, .int .i64 0, .int .i64 0, .int .i64 0] 31 (0, 0))) ∧ (Below w.heap.size w w')) ?_ ?_
          rotate_left
          ·intro hJ3
           refine join_ (σ := Nat) 7 zq16_10 (fun s_ => [(5, .pointer (some ⟨s_, 0, none⟩))]) (fun s_ w' => (w'.cell? ad709 = some (.string (rdOf ByteArray.empty t706 0)) ∧ w'.cell? ⟨ad709.block, ad709.off + 1, none⟩ = some (.string (rdOf ByteArray.empty t706 1)) ∧ w'.cell? ⟨ad709.block, ad709.off + 2, none⟩ = some (.string (rdOf ByteArray.empty t706 2)) ∧ w'.cell? ⟨ad709.block, ad709.off + 3, none⟩ = some (.string (rdOf ByteArray.empty t706 3)) ∧ w'.cell? ⟨ad709.block, ad709.off + 4, none⟩ = some (.string (rdOf ByteArray.empty t706 4))) ∧ (Kd.R Kd.string 9 w' w.heap.size (fun _ => True) (.slice (some ad709) t706.length co17) t706) ∧ (w'.heap[gb705]? = some (.cells #[.int .i64 0, .int .i64 0, .int .i64 0, .int .i64 0, .int .i64 0] 31 (0, 0))) ∧ (w'.heap[s_]? = some (.cells #[.int .i64 0, .int .i64 0, .int .i64 0, .int .i64 0, .int .i64 0] 31 (0, 0))) ∧ (w.heap.size ≤ s_) ∧ (w.heap.size ≤ s_) ∧ (gb705 ≠ s_) ∧ (s_ ≠ gb705) ∧ (Below w.heap.size w w')) ?_ ?_
           rotate_left
           ·intro hJ21
            refine two_ (i := 3) (j := 21) (Ni := some 15) (Nj := some 5) zq16_9 zq16_10 rfl rfl rfl rfl (two_of HT_.1 (by kernel_rfl)) (by decide) (by decide) (fun K hK => ?_) (fun K hK => ?_)
            ·refine goes_ Tryd.func27 (by kernel_rfl) rfl #[.string (rdOf ByteArray.empty t706 0)] (by rfl) rfl rfl zT ?_
             with_reducible refine (spec_l28Num.calls k (rdOf ByteArray.empty t706 0) t710 _ A5.1).mono ?_
             rintro e w19 ⟨rfl, hb⟩
             refine ⟨_, rfl, ?_⟩
             replace HO708 := zM (Kd.R_below (zR HO708.1) hb)
             replace BK705 := zM (zb BK705.1 hb)
             replace HB := zM (below_step zB3 hb)
             refine hK.out _ _ zCs fun hHeld => ?_
             clear hK K
             refine zNo ?_
             exact norm_ (by first | (simp only [putAll, Act.put, List.setIfInBounds_toArray, List.set_cons_zero, List.set_cons_succ]; done) | (simp only [putAll, Act.put, List.setIfInBounds_toArray, List.set_cons_zero, List.set_cons_succ]; rfl)) (hJ3 () _ ⟨hHeld, (zR HO708.1), (zK BK705.1), zB3⟩)
            ·refine zBs 5 31 #[.int .i64 0, .int .i64 0, .int .i64 0, .int .i64 0, .int .i64 0] ?_
             intro gb719 hg w19 hbox hb
             replace HO708 := zM (Kd.R_below (zR HO708.1) hb)
             replace BK719 := zM hbox
             replace GW719 := zM (zW hg (below_size zB3))
             replace GE719 := zM (zW hg (below_size zB3))
             replace HB := zM (below_step zB3 hb)
             replace NB705_719 := zM ((zn BK705.1 hg : gb705 ≠ gb719))
             replace NB719_705 := zM ((zm BK705.1 hg : gb719 ≠ gb705))
             replace BK705 := zM (zb BK705.1 hb)
             refine hK.out _ _ zCs fun hHeld => ?_
             clear hK K
             refine zNo ?_
             exact norm_ (by first | (simp only [putAll, Act.put, List.setIfInBounds_toArray, List.set_cons_zero, List.set_cons_succ]; done) | (simp only [putAll, Act.put, List.setIfInBounds_toArray, List.set_cons_zero, List.set_cons_succ]; rfl)) (hJ21 (gb719) _ ⟨hHeld, (zR HO708.1), (zK BK705.1), (zK BK719.1), GW719.1, GE719.1, NB705_719.1, NB719_705.1, zB3⟩)
           ·rintro gb719 w20 ⟨hS_, h0_, h1_, h2_, h3_, h4_, h5_, h6_, h7_⟩
            replace HO708 := zM h0_
            replace BK705 := zM h1_
            replace BK719 := zM h2_
            replace GW719 := zM h3_
            replace GE719 := zM h4_
            replace NB705_719 := zM h5_
            replace NB719_705 := zM h6_
            replace HB := zM h7_
            have hHeld := hS_
            refine zNp ?_
            refine zOn 3 (some 15) fun K hK => ?_
            refine goes_ Tryd.func27 (by kernel_rfl) rfl #[.string (rdOf ByteArray.empty t706 0)] (by rfl) rfl rfl zT ?_
            with_reducible refine (spec_l28Num.calls k (rdOf ByteArray.empty t706 0) t710 _ A5.1).mono ?_
            rintro e w21 ⟨rfl, hb⟩
            refine ⟨_, rfl, ?_⟩
            replace HO708 := zM (Kd.R_below (zR HO708.1) hb)
            replace BK705 := zM (zb BK705.1 hb)
            replace BK719 := zM (zb BK719.1 hb)
            replace HB := zM (below_step zB3 hb)
            refine hK.out _ _ zCs fun hHeld => ?_
            clear hK K
            refine zNo ?_
            exact norm_ (by first | (simp only [putAll, Act.put, List.setIfInBounds_toArray, List.set_cons_zero, List.set_cons_succ]; done) | (simp only [putAll, Act.put, List.setIfInBounds_toArray, List.set_cons_zero, List.set_cons_succ]; rfl)) (hJ3_21 (gb719) _ ⟨hHeld, (zR HO708.1), (zK BK705.1), (zK BK719.1), GW719.1, GE719.1, NB705_719.1, NB719_705.1, zB3⟩)
          ·rintro _ w20 ⟨hS_, h0_, h1_, h2_⟩
           replace HO708 := zM h0_
           replace BK705 := zM h1_
           replace HB := zM h2_
           have hHeld := hS_
           refine zNp ?_
           refine two_ (i := 7) (j := 21) (Ni := some 19) (Nj := some 5) zq16_7 zq16_8 rfl rfl rfl rfl (two_of HT_.1 (by kernel_rfl)) (by decide) (by decide) (fun K hK => ?_) (fun K hK => ?_)
           ·refine goes_ Tryd.func27 (by kernel_rfl) rfl #[.string (rdOf ByteArray.empty t706 1)] (by rfl) rfl rfl zT ?_
            with_reducible refine (spec_l28Num.calls k (rdOf ByteArray.empty t706 1) t712 _ A7.1).mono ?_
            rintro e w21 ⟨rfl, hb⟩
            refine ⟨_, rfl, ?_⟩
            replace HO708 := zM (Kd.R_below (zR HO708.1) hb)
            replace BK705 := zM (zb BK705.1 hb)
            replace HB := zM (below_step zB3 hb)
            refine hK.out _ _ zCs fun hHeld => ?_
            clear hK K
            refine zNo ?_
            exact norm_ (by first | (simp only [putAll, Act.put, List.setIfInBounds_toArray, List.set_cons_zero, List.set_cons_succ]; done) | (simp only [putAll, Act.put, List.setIfInBounds_toArray, List.set_cons_zero, List.set_cons_succ]; rfl)) (hJ3_7 () _ ⟨hHeld, (zR HO708.1), (zK BK705.1), zB3⟩)
           ·refine zBs 5 31 #[.int .i64 0, .int .i64 0, .int .i64 0, .int .i64 0, .int .i64 0] ?_
            intro gb719 hg w21 hbox hb
            replace HO708 := zM (Kd.R_below (zR HO708.1) hb)
            replace BK719 := zM hbox
            replace GW719 := zM (zW hg (below_size zB3))
            replace GE719 := zM (zW hg (below_size zB3))
            replace HB := zM (below_step zB3 hb)
            replace NB705_719 := zM ((zn BK705.1 hg : gb705 ≠ gb719))
            replace NB719_705 := zM ((zm BK705.1 hg : gb719 ≠ gb705))
            replace BK705 := zM (zb BK705.1 hb)
            refine hK.out _ _ zCs fun hHeld => ?_
            clear hK K
            refine zNo ?_
            exact norm_ (by first | (simp only [putAll, Act.put, List.setIfInBounds_toArray, List.set_cons_zero, List.set_cons_succ]; done) | (simp only [putAll, Act.put, List.setIfInBounds_toArray, List.set_cons_zero, List.set_cons_succ]; rfl)) (hJ3_21 (gb719) _ ⟨hHeld, (zR HO708.1), (zK BK705.1), (zK BK719.1), GW719.1, GE719.1, NB705_719.1, NB719_705.1, zB3⟩)
         ·rintro gb719 w21 ⟨hS_, h0_, h1_, h2_, h3_, h4_, h5_, h6_, h7_⟩
          replace HO708 := zM h0_
          replace BK705 := zM h1_
          replace BK719 := zM h2_
          replace GW719 := zM h3_
          replace GE719 := zM h4_
          replace NB705_719 := zM h5_
          replace NB719_705 := zM h6_
          replace HB := zM h7_
          have hHeld := hS_
          refine zNp ?_
          refine zOn 7 (some 19) fun K hK => ?_
          refine goes_ Tryd.func27 (by kernel_rfl) rfl #[.string (rdOf ByteArray.empty t706 1)] (by rfl) rfl rfl zT ?_
          with_reducible refine (spec_l28Num.calls k (rdOf ByteArray.empty t706 1) t712 _ A7.1).mono ?_
          rintro e w22 ⟨rfl, hb⟩
          refine ⟨_, rfl, ?_⟩
          replace HO708 := zM (Kd.R_below (zR HO708.1) hb)
          replace BK705 := zM (zb BK705.1 hb)
          replace BK719 := zM (zb BK719.1 hb)
          replace HB := zM (below_step zB3 hb)
          refine hK.out _ _ zCs fun hHeld => ?_
          clear hK K
          refine zNo ?_
          exact norm_ (by first | (simp only [putAll, Act.put, List.setIfInBounds_toArray, List.set_cons_zero, List.set_cons_succ]; done) | (simp only [putAll, Act.put, List.setIfInBounds_toArray, List.set_cons_zero, List.set_cons_succ]; rfl)) (hJ3_7_21 (gb719) _ ⟨hHeld, (zR HO708.1), (zK BK705.1), (zK BK719.1), GW719.1, GE719.1, NB705_719.1, NB719_705.1, zB3⟩)
        ·rintro _ w21 ⟨hS_, h0_, h1_, h2_⟩
         replace HO708 := zM h0_
         replace BK705 := zM h1_
         replace HB := zM h2_
         have hHeld := hS_
         refine zNp ?_
         refine two_ (i := 11) (j := 21) (Ni := some 23) (Nj := some 5) zq16_5 zq16_6 rfl rfl rfl rfl (two_of HT_.1 (by kernel_rfl)) (by decide) (by decide) (fun K hK => ?_) (fun K hK => ?_)
         ·refine goes_ Tryd.func27 (by kernel_rfl) rfl #[.string (rdOf ByteArray.empty t706 2)] (by rfl) rfl rfl zT ?_
          with_reducible refine (spec_l28Num.calls k (rdOf ByteArray.empty t706 2) t714 _ A9.1).mono ?_
          rintro e w22 ⟨rfl, hb⟩
          refine ⟨_, rfl, ?_⟩
          replace HO708 := zM (Kd.R_below (zR HO708.1) hb)
          replace BK705 := zM (zb BK705.1 hb)
          replace HB := zM (below_step zB3 hb)
          refine hK.out _ _ zCs fun hHeld => ?_
          clear hK K
          refine zNo ?_
          exact norm_ (by first | (simp only [putAll, Act.put, List.setIfInBounds_toArray, List.set_cons_zero, List.set_cons_succ]; done) | (simp only [putAll, Act.put, List.setIfInBounds_toArray, List.set_cons_zero, List.set_cons_succ]; rfl)) (hJ3_7_11 () _ ⟨hHeld, (zR HO708.1), (zK BK705.1), zB3⟩)
         ·refine zBs 5 31 #[.int .i64 0, .int .i64 0, .int .i64 0, .int .i64 0, .int .i64 0] ?_
          intro gb719 hg w22 hbox hb
          replace HO708 := zM (Kd.R_below (zR HO708.1) hb)
          replace BK719 := zM hbox
          replace GW719 := zM (zW hg (below_size zB3))
          replace GE719 := zM (zW hg (below_size zB3))
          replace HB := zM (below_step zB3 hb)
          replace NB705_719 := zM ((zn BK705.1 hg : gb705 ≠ gb719))
          replace NB719_705 := zM ((zm BK705.1 hg : gb719 ≠ gb705))
          replace BK705 := zM (zb BK705.1 hb)
          refine hK.out _ _ zCs fun hHeld => ?_
          clear hK K
          refine zNo ?_
          exact norm_ (by first | (simp only [putAll, Act.put, List.setIfInBounds_toArray, List.set_cons_zero, List.set_cons_succ]; done) | (simp only [putAll, Act.put, List.setIfInBounds_toArray, List.set_cons_zero, List.set_cons_succ]; rfl)) (hJ3_7_21 (gb719) _ ⟨hHeld, (zR HO708.1), (zK BK705.1), (zK BK719.1), GW719.1, GE719.1, NB705_719.1, NB719_705.1, zB3⟩)
       ·rintro gb719 w22 ⟨hS_, h0_, h1_, h2_, h3_, h4_, h5_, h6_, h7_⟩
        replace HO708 := zM h0_
        replace BK705 := zM h1_
        replace BK719 := zM h2_
        replace GW719 := zM h3_
        replace GE719 := zM h4_
        replace NB705_719 := zM h5_
        replace NB719_705 := zM h6_
        replace HB := zM h7_
        have hHeld := hS_
        refine zNp ?_
        refine zOn 11 (some 23) fun K hK => ?_
        refine goes_ Tryd.func27 (by kernel_rfl) rfl #[.string (rdOf ByteArray.empty t706 2)] (by rfl) rfl rfl zT ?_
        with_reducible refine (spec_l28Num.calls k (rdOf ByteArray.empty t706 2) t714 _ A9.1).mono ?_
        rintro e w23 ⟨rfl, hb⟩
        refine ⟨_, rfl, ?_⟩
        replace HO708 := zM (Kd.R_below (zR HO708.1) hb)
        replace BK705 := zM (zb BK705.1 hb)
        replace BK719 := zM (zb BK719.1 hb)
        replace HB := zM (below_step zB3 hb)
        refine hK.out _ _ zCs fun hHeld => ?_
        clear hK K
        refine zNo ?_
        exact norm_ (by first | (simp only [putAll, Act.put, List.setIfInBounds_toArray, List.set_cons_zero, List.set_cons_succ]; done) | (simp only [putAll, Act.put, List.setIfInBounds_toArray, List.set_cons_zero, List.set_cons_succ]; rfl)) (hJ3_7_11_21 (gb719) _ ⟨hHeld, (zR HO708.1), (zK BK705.1), (zK BK719.1), GW719.1, GE719.1, NB705_719.1, NB719_705.1, zB3⟩)
      ·rintro _ w22 ⟨hS_, h0_, h1_, h2_⟩
       replace HO708 := zM h0_
       replace BK705 := zM h1_
       replace HB := zM h2_
       have hHeld := hS_
       refine zNp ?_
       refine two_ (i := 15) (j := 21) (Ni := some 27) (Nj := some 5) zq16_3 zq16_4 rfl rfl rfl rfl (two_of HT_.1 (by kernel_rfl)) (by decide) (by decide) (fun K hK => ?_) (fun K hK => ?_)
       ·refine goes_ Tryd.func27 (by kernel_rfl) rfl #[.string (rdOf ByteArray.empty t706 3)] (by rfl) rfl rfl zT ?_
        with_reducible refine (spec_l28Num.calls k (rdOf ByteArray.empty t706 3) t716 _ A11.1).mono ?_
        rintro e w23 ⟨rfl, hb⟩
        refine ⟨_, rfl, ?_⟩
        replace HO708 := zM (Kd.R_below (zR HO708.1) hb)
        replace BK705 := zM (zb BK705.1 hb)
        replace HB := zM (below_step zB3 hb)
        refine hK.out _ _ zCs fun hHeld => ?_
        clear hK K
        refine zNo ?_
        exact norm_ (by first | (simp only [putAll, Act.put, List.setIfInBounds_toArray, List.set_cons_zero, List.set_cons_succ]; done) | (simp only [putAll, Act.put, List.setIfInBounds_toArray, List.set_cons_zero, List.set_cons_succ]; rfl)) (hJ3_7_11_15 () _ ⟨hHeld, (zR HO708.1), (zK BK705.1), zB3⟩)
       ·refine zBs 5 31 #[.int .i64 0, .int .i64 0, .int .i64 0, .int .i64 0, .int .i64 0] ?_
        intro gb719 hg w23 hbox hb
        replace HO708 := zM (Kd.R_below (zR HO708.1) hb)
        replace BK719 := zM hbox
        replace GW719 := zM (zW hg (below_size zB3))
        replace GE719 := zM (zW hg (below_size zB3))
        replace HB := zM (below_step zB3 hb)
        replace NB705_719 := zM ((zn BK705.1 hg : gb705 ≠ gb719))
        replace NB719_705 := zM ((zm BK705.1 hg : gb719 ≠ gb705))
        replace BK705 := zM (zb BK705.1 hb)
        refine hK.out _ _ zCs fun hHeld => ?_
        clear hK K
        refine zNo ?_
        exact norm_ (by first | (simp only [putAll, Act.put, List.setIfInBounds_toArray, List.set_cons_zero, List.set_cons_succ]; done) | (simp only [putAll, Act.put, List.setIfInBounds_toArray, List.set_cons_zero, List.set_cons_succ]; rfl)) (hJ3_7_11_21 (gb719) _ ⟨hHeld, (zR HO708.1), (zK BK705.1), (zK BK719.1), GW719.1, GE719.1, NB705_719.1, NB719_705.1, zB3⟩)
     ·rintro gb719 w23 ⟨hS_, h0_, h1_, h2_, h3_, h4_, h5_, h6_, h7_⟩
      replace HO708 := zM h0_
      replace BK705 := zM h1_
      replace BK719 := zM h2_
      replace GW719 := zM h3_
      replace GE719 := zM h4_
      replace NB705_719 := zM h5_
      replace NB719_705 := zM h6_
      replace HB := zM h7_
      have hHeld := hS_
      refine zNp ?_
      refine zOn 15 (some 27) fun K hK => ?_
      refine goes_ Tryd.func27 (by kernel_rfl) rfl #[.string (rdOf ByteArray.empty t706 3)] (by rfl) rfl rfl zT ?_
      with_reducible refine (spec_l28Num.calls k (rdOf ByteArray.empty t706 3) t716 _ A11.1).mono ?_
      rintro e w24 ⟨rfl, hb⟩
      refine ⟨_, rfl, ?_⟩
      replace HO708 := zM (Kd.R_below (zR HO708.1) hb)
      replace BK705 := zM (zb BK705.1 hb)
      replace BK719 := zM (zb BK719.1 hb)
      replace HB := zM (below_step zB3 hb)
      refine hK.out _ _ zCs fun hHeld => ?_
      clear hK K
      refine zNo ?_
      exact norm_ (by first | (simp only [putAll, Act.put, List.setIfInBounds_toArray, List.set_cons_zero, List.set_cons_succ]; done) | (simp only [putAll, Act.put, List.setIfInBounds_toArray, List.set_cons_zero, List.set_cons_succ]; rfl)) (hJ3_7_11_15_21 (gb719) _ ⟨hHeld, (zR HO708.1), (zK BK705.1), (zK BK719.1), GW719.1, GE719.1, NB705_719.1, NB719_705.1, zB3⟩)
    ·rintro _ w23 ⟨hS_, h0_, h1_, h2_⟩
     replace HO708 := zM h0_
     replace BK705 := zM h1_
     replace HB := zM h2_
     have hHeld := hS_
     refine zNp ?_
     refine two_ (i := 19) (j := 21) (Ni := some 31) (Nj := some 5) #[true, true, true, true, true, true, true, true, true, true, true, true, true, true, true, true, true, true, true, true, false, false, false] zq16_2 rfl rfl rfl rfl (two_of HT_.1 (by kernel_rfl)) (by decide) (by decide) (fun K hK => ?_) (fun K hK => ?_)
     ·refine goes_ Tryd.func27 (by kernel_rfl) rfl #[.string (rdOf ByteArray.empty t706 4)] (by rfl) rfl rfl zT ?_
      with_reducible refine (spec_l28Num.calls k (rdOf ByteArray.empty t706 4) t718 _ A13.1).mono ?_
      rintro e w24 ⟨rfl, hb⟩
      refine ⟨_, rfl, ?_⟩
      replace HO708 := zM (Kd.R_below (zR HO708.1) hb)
      replace BK705 := zM (zb BK705.1 hb)
      replace HB := zM (below_step zB3 hb)
      refine hK.out _ _ zCs fun hHeld => ?_
      clear hK K
      refine zNo ?_
      refine zPu 20 ?_
      exact norm_ (by first | (simp only [putAll, Act.put, List.setIfInBounds_toArray, List.set_cons_zero, List.set_cons_succ]; done) | (simp only [putAll, Act.put, List.setIfInBounds_toArray, List.set_cons_zero, List.set_cons_succ]; rfl)) (hJ3_7_11_15_19 () _ ⟨hHeld, (zR HO708.1), (zK BK705.1), zB3⟩)
     ·refine zBs 5 31 #[.int .i64 0, .int .i64 0, .int .i64 0, .int .i64 0, .int .i64 0] ?_
      intro gb719 hg w24 hbox hb
      replace HO708 := zM (Kd.R_below (zR HO708.1) hb)
      replace BK719 := zM hbox
      replace GW719 := zM (zW hg (below_size zB3))
      replace GE719 := zM (zW hg (below_size zB3))
      replace HB := zM (below_step zB3 hb)
      replace NB705_719 := zM ((zn BK705.1 hg : gb705 ≠ gb719))
      replace NB719_705 := zM ((zm BK705.1 hg : gb719 ≠ gb705))
      replace BK705 := zM (zb BK705.1 hb)
      refine hK.out _ _ zCs fun hHeld => ?_
      clear hK K
      refine zNo ?_
      exact norm_ (by first | (simp only [putAll, Act.put, List.setIfInBounds_toArray, List.set_cons_zero, List.set_cons_succ]; done) | (simp only [putAll, Act.put, List.setIfInBounds_toArray, List.set_cons_zero, List.set_cons_succ]; rfl)) (hJ3_7_11_15_21 (gb719) _ ⟨hHeld, (zR HO708.1), (zK BK705.1), (zK BK719.1), GW719.1, GE719.1, NB705_719.1, NB719_705.1, zB3⟩)
   ·rintro gb719 w24 ⟨hS_, h0_, h1_, h2_, h3_, h4_, h5_, h6_, h7_⟩
    replace HO708 := zM h0_
    replace BK705 := zM h1_
    replace BK719 := zM h2_
    replace GW719 := zM h3_
    replace GE719 := zM h4_
    replace NB705_719 := zM h5_
    replace NB719_705 := zM h6_
    replace HB := zM h7_
    have hHeld := hS_
    refine zNp ?_
    refine zOn 19 (some 31) fun K hK => ?_
    refine goes_ Tryd.func27 (by kernel_rfl) rfl #[.string (rdOf ByteArray.empty t706 4)] (by rfl) rfl rfl zT ?_
    with_reducible refine (spec_l28Num.calls k (rdOf ByteArray.empty t706 4) t718 _ A13.1).mono ?_
    rintro e w25 ⟨rfl, hb⟩
    refine ⟨_, rfl, ?_⟩
    replace HO708 := zM (Kd.R_below (zR HO708.1) hb)
    replace BK705 := zM (zb BK705.1 hb)
    replace BK719 := zM (zb BK719.1 hb)
    replace HB := zM (below_step zB3 hb)
    refine hK.out _ _ zCs fun hHeld => ?_
    clear hK K
    refine zNo ?_
    refine zPu 20 ?_
    exact norm_ (by first | (simp only [putAll, Act.put, List.setIfInBounds_toArray, List.set_cons_zero, List.set_cons_succ]; done) | (simp only [putAll, Act.put, List.setIfInBounds_toArray, List.set_cons_zero, List.set_cons_succ]; rfl)) (hJ3_7_11_15_19_21 (gb719) _ ⟨hHeld, (zR HO708.1), (zK BK705.1), (zK BK719.1), GW719.1, GE719.1, NB705_719.1, NB719_705.1, zB3⟩)
  ·rintro _ w24 ⟨hS_, h0_, h1_, h2_⟩
   replace HO708 := zM h0_
   replace BK705 := zM h1_
   replace HB := zM h2_
   have hHeld := hS_
   refine zNp ?_
   refine zOn 21 (some 5) fun K hK => ?_
   refine zBs 5 31 #[.int .i64 0, .int .i64 0, .int .i64 0, .int .i64 0, .int .i64 0] ?_
   intro gb719 hg w25 hbox hb
   replace HO708 := zM (Kd.R_below (zR HO708.1) hb)
   replace BK719 := zM hbox
   replace GW719 := zM (zW hg (below_size zB3))
   replace GE719 := zM (zW hg (below_size zB3))
   replace HB := zM (below_step zB3 hb)
   replace NB705_719 := zM ((zn BK705.1 hg : gb705 ≠ gb719))
   replace NB719_705 := zM ((zm BK705.1 hg : gb719 ≠ gb705))
   replace BK705 := zM (zb BK705.1 hb)
   refine hK.out _ _ zCs fun hHeld => ?_
   clear hK K
   refine zNo ?_
   exact norm_ (by first | (simp only [putAll, Act.put, List.setIfInBounds_toArray, List.set_cons_zero, List.set_cons_succ]; done) | (simp only [putAll, Act.put, List.setIfInBounds_toArray, List.set_cons_zero, List.set_cons_succ]; rfl)) (hJ3_7_11_15_19_21 (gb719) _ ⟨hHeld, (zR HO708.1), (zK BK705.1), (zK BK719.1), GW719.1, GE719.1, NB705_719.1, NB719_705.1, zB3⟩)
 rintro gb719 w25 ⟨hS_, h0_, h1_, h2_, h3_, h4_, h5_, h6_, h7_⟩
 replace HO708 := zM h0_
 replace BK705 := zM h1_
 replace BK719 := zM h2_
 replace GW719 := zM h3_
 replace GE719 := zM h4_
 replace NB705_719 := zM h5_
 replace NB719_705 := zM h6_
 replace HB := zM h7_
 have hHeld := hS_
 refine zNp ?_
 refine zOn 22 none fun K hK => ?_
 obtain ⟨hs26, hfs26⟩ := zHs BK719.1 0
 have hns26_0 := NB705_719.1
 have hms26_0 := NB719_705.1
 obtain ⟨hs27, hfs27⟩ := zHs BK719.1 1
 have hns27_0 := NB705_719.1
 have hms27_0 := NB719_705.1
 obtain ⟨hs28, hfs28⟩ := zHs BK719.1 2
 have hns28_0 := NB705_719.1
 have hms28_0 := NB719_705.1
 obtain ⟨hs29, hfs29⟩ := zHs BK719.1 3
 have hns29_0 := NB705_719.1
 have hms29_0 := NB719_705.1
 obtain ⟨hs30, hfs30⟩ := zHs BK719.1 4
 have hns30_0 := NB705_719.1
 have hms30_0 := NB719_705.1
 refine skip_ (w1 := ?_) (by rfl) rfl ?_ ?_
 rotate_left
 ·go_simp
  rfl
 have f0_ := zM (Kd.own_blk (Kd.R_ne HO708.1 BK719.1 (by decide)))
 refine hK.out _ _ zCt fun hHeld => ?_
 clear hK K
 refine done_ (done_of HT_.1 (by kernel_rfl)) ?_
 go_upto_region 5 with (fail)
 go_cut [57] (fun v57 wc => ∃ (kq : Nat) (x57_13 : Bool), v57 = .bool x57_13 ∧ Aside0 (spec_EventRead.j0 kq x57_13 t710 t712 t714 t716 t718 = some (r1, r2, r3, r4, r5, r6)) ∧ Aside0 (kq ≤ k) ∧ Aside0 (wc.heap[gb705]? = some (.cells #[.int .i64 0, .int .i64 0, .int .i64 0, .int .i64 0, .int .i64 0] 31 (0, 0))) ∧ Aside0 (wc.heap[gb719]? = some (.cells #[.int .i64 t710, .int .i64 t712, .int .i64 t714, .int .i64 t716, .int .i64 t718] 31 (0, 0))) ∧ Aside0 (Below w.heap.size w wc))
 case first =>
  have H := HC14.1
  clear HC14
  replace H := zO H
  obtain ⟨t720, A31, H⟩ := H
  by_cases c32 : t720 = true
  rotate_left
  ·replace c32 := Bool.eq_false_iff.mpr c32
   subst c32
   rw [if_neg zF] at H
   have H' := zM H
   clear H
   have hnb45 := NB719_705.1
   have hnc45 := NB705_719.1
   have hcz46 := zc_5 (w := w25) BK719.1
   go_wp2_with (first | ((with_reducible refine gate_callee (f := 28) rfl ?_); refine goesL_ (some 35) rfl rfl Tryd.func28 (by kernel_rfl) rfl #[.int .i64 t710, .int .i64 0, .int .i64 99] rfl zT ?_; (with_reducible refine (spec_l1In.calls t710 0 99 false _ A31.1).mono ?_); rintro e w' ⟨rfl, ⟨nd, rfl⟩⟩; refine ⟨_, rfl, ?_⟩))
   go_meet
   case rel => exact ⟨_, (true), zJJ, H', ⟨by first | omega | exact Nat.le_refl _⟩, ⟨zPq⟩, ⟨by exact zp5 (zK BK719.1)⟩, ⟨zB3⟩⟩
  subst c32
  rw [if_pos rfl] at H
  replace H := zO H
  obtain ⟨t721, A33, H⟩ := H
  by_cases c34 : t721 = true
  rotate_left
  ·replace c34 := Bool.eq_false_iff.mpr c34
   subst c34
   rw [if_neg zF] at H
   have H' := zM H
   clear H
   have hnb43 := NB719_705.1
   have hnc43 := NB705_719.1
   have hcz44 := zc_5 (w := w25) BK719.1
   go_wp2_with (first | ((with_reducible refine gate_callee (f := 28) rfl ?_); refine goesL_ (some 35) rfl rfl Tryd.func28 (by kernel_rfl) rfl #[.int .i64 t710, .int .i64 0, .int .i64 99] rfl zT ?_; (with_reducible refine (spec_l1In.calls t710 0 99 true _ A31.1).mono ?_); rintro e w' ⟨rfl, ⟨nd, rfl⟩⟩; refine ⟨_, rfl, ?_⟩) | (go_at_call 28; (with_reducible refine (spec_l1In.calls t712 0 99 false _ A33.1).mono ?_); rintro e w' ⟨rfl, ⟨nd, rfl⟩⟩))
   go_meet
   case rel => exact ⟨_, (true), zJJ, H', ⟨by first | omega | exact Nat.le_refl _⟩, ⟨zPq⟩, ⟨by exact zp5 (zK BK719.1)⟩, ⟨zB3⟩⟩
  subst c34
  rw [if_pos rfl] at H
  by_cases c35 : t714 < (-1)
  ·rw [if_pos c35] at H
   have c35b0 := decide_eq_true c35
   clear c35
   (first | rw [c35b0] | (simp only [i64_w, i32_w]; rw [c35b0]) | skip)
   have H' := zM H
   clear H
   have hnb36 := NB719_705.1
   have hnc36 := NB705_719.1
   have hcz37 := zc_5 (w := w25) BK719.1
   go_wp2_with (first | ((with_reducible refine gate_callee (f := 28) rfl ?_); refine goesL_ (some 35) rfl rfl Tryd.func28 (by kernel_rfl) rfl #[.int .i64 t710, .int .i64 0, .int .i64 99] rfl zT ?_; (with_reducible refine (spec_l1In.calls t710 0 99 true _ A31.1).mono ?_); rintro e w' ⟨rfl, ⟨nd, rfl⟩⟩; refine ⟨_, rfl, ?_⟩) | (go_at_call 28; (with_reducible refine (spec_l1In.calls t712 0 99 true _ A33.1).mono ?_); rintro e w' ⟨rfl, ⟨nd, rfl⟩⟩))
   go_meet
   case rel => exact ⟨_, (true), zJJ, H', ⟨by first | omega | exact Nat.le_refl _⟩, ⟨zPq⟩, ⟨by exact zp5 (zK BK719.1)⟩, ⟨zB3⟩⟩
  rw [if_neg c35] at H
  have c35b0 := decide_eq_false c35
  clear c35
  (first | rw [c35b0] | (simp only [i64_w, i32_w]; rw [c35b0]) | skip)
  by_cases c38 : t716 < (-1)
  ·rw [if_pos c38] at H
   have c38b0 := decide_eq_true c38
   clear c38
   have H' := zM H
   clear H
   have hnb39 := NB719_705.1
   have hnc39 := NB705_719.1
   have hcz40 := zc_5 (w := w25) BK719.1
   go_wp2_with (first | ((with_reducible refine gate_callee (f := 28) rfl ?_); refine goesL_ (some 35) rfl rfl Tryd.func28 (by kernel_rfl) rfl #[.int .i64 t710, .int .i64 0, .int .i64 99] rfl zT ?_; (with_reducible refine (spec_l1In.calls t710 0 99 true _ A31.1).mono ?_); rintro e w' ⟨rfl, ⟨nd, rfl⟩⟩; refine ⟨_, rfl, ?_⟩) | (go_at_call 28; (with_reducible refine (spec_l1In.calls t712 0 99 true _ A33.1).mono ?_); rintro e w' ⟨rfl, ⟨nd, rfl⟩⟩))
   go_meet
   case rel => exact ⟨_, (true), zJJ, H', ⟨by first | omega | exact Nat.le_refl _⟩, ⟨zPq⟩, ⟨by exact zp5 (zK BK719.1)⟩, ⟨zB3⟩⟩
  rw [if_neg c38] at H
  have c38b0 := decide_eq_false c38
  clear c38
  have H' := zM H
  clear H
  have hnb41 := NB719_705.1
  have hnc41 := NB705_719.1
  have hcz42 := zc_5 (w := w25) BK719.1
  go_wp2_with (first | ((with_reducible refine gate_callee (f := 28) rfl ?_); refine goesL_ (some 35) rfl rfl Tryd.func28 (by kernel_rfl) rfl #[.int .i64 t710, .int .i64 0, .int .i64 99] rfl zT ?_; (with_reducible refine (spec_l1In.calls t710 0 99 true _ A31.1).mono ?_); rintro e w' ⟨rfl, ⟨nd, rfl⟩⟩; refine ⟨_, rfl, ?_⟩) | (go_at_call 28; (with_reducible refine (spec_l1In.calls t712 0 99 true _ A33.1).mono ?_); rintro e w' ⟨rfl, ⟨nd, rfl⟩⟩))
  go_meet
  case rel => exact ⟨_, (decide (t718 < (-1))), zJJ, H', ⟨by first | omega | exact Nat.le_refl _⟩, ⟨zPq⟩, ⟨by exact zp5 (zK BK719.1)⟩, ⟨zB3⟩⟩
 case rest =>
  clear HC14
  obtain ⟨kq, x57_13, rfl, HA, HJ13, BK705, BK719, HB⟩ := hcut
  cases kq with
  | zero => exact absurd HA.1 (by simp [spec_EventRead.j0])
  | succ kj13 =>
   have H := HA.1
   clear HA
   simp only [spec_EventRead.j0] at H
   by_cases c47 : x57_13 = true
   ·subst c47
    rw [if_pos rfl] at H
    simp only [Option.some.injEq, Prod.mk.injEq] at H
    obtain ⟨rfl, rfl, rfl, rfl, rfl, rfl⟩ := H
    have hnb48 := NB705_719.1
    have hnc48 := NB719_705.1
    have hcz49 := zc_5 (w := wc) BK705.1
    go_wp2
    refine bodyPost_ret (results_ct rfl _ _ gb705 31 #[.int .i64 0, .int .i64 0, .int .i64 0, .int .i64 0, .int .i64 0] (0, 0) _ rfl (by exact zp5 (zK BK705.1)) Tryd.underlying31 rfl (by kernel_rfl)) rfl ?_
    exact ⟨zE, zB3⟩
   replace c47 := Bool.eq_false_iff.mpr c47
   subst c47
   rw [if_neg zF] at H
   simp only [Option.some.injEq, Prod.mk.injEq] at H
   obtain ⟨rfl, rfl, rfl, rfl, rfl, rfl⟩ := H
   have hnb50 := NB719_705.1
   have hnc50 := NB705_719.1
   have hcz51 := zc_5 (w := wc) BK719.1
   have hcz52 := zc_5 (w := wc) BK705.1
   go_wp2
   refine bodyPost_ret (results_ct rfl _ _ gb705 31 #[.int .i64 t710, .int .i64 t712, .int .i64 t714, .int .i64 t716, .int .i64 t718] (0, 0) _ rfl (by exact zp5 (zK BK705.1)) Tryd.underlying31 rfl (by kernel_rfl)) rfl ?_
   exact ⟨zE, zB3⟩

end Go.Proofs.YtaakcbgpmabaaaaDoor.PFnStories
