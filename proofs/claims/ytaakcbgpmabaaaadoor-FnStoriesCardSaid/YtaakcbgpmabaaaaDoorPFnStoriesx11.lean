-- made by wip/tools/myprint.py out of the seat's translation
import Derived.Test.YtaakcbgpmabaaaaDoorPFnStoriesx0
import Derived.Test.YtaakcbgpmabaaaaDoorPFnStoriesx2
import Derived.Test.YtaakcbgpmabaaaaDoorPFnStoriesx10
namespace Go.Proofs.YtaakcbgpmabaaaaDoor.PFnStories
open Go.RowKit Go.Proofs.YtaakcbgpmabaaaaDoorW.PrintWords Go.Proofs.YtaakcbgpmabaaaaDoorW.PrintLast Go.Proofs.YtaakcbgpmabaaaaDoorW.PrintMore
attribute [local go_sem] max2_int min2_int max_two min_two max_three min_three max_four min_four   -- for this text's walks alone
set_option linter.unusedVariables false
set_option linter.unusedSimpArgs false
set_option maxHeartbeats 8000000
set_option maxRecDepth 100000

/-! ### spec_EventText: function 23 -/
def spec_EventText.f (k : Nat) (a0_0 : Int) (a0_1 : Int) (a0_2 : Int) (a0_3 : Int) (a0_4 : Int) : Option (ByteArray) := (spec_l18Num.f k a0_0).bind fun t564 => (if t564.size + 1 ≤ 9223372036854775807 then ((spec_l18Num.f k a0_1).bind fun t565 => (if (t564 ++ (⟨#[32]⟩ : ByteArray)).size + t565.size ≤ 9223372036854775807 then (if ((t564 ++ (⟨#[32]⟩ : ByteArray)) ++ t565).size + 1 ≤ 9223372036854775807 then ((spec_l18Num.f k a0_2).bind fun t566 => (if (((t564 ++ (⟨#[32]⟩ : ByteArray)) ++ t565) ++ (⟨#[32]⟩ : ByteArray)).size + t566.size ≤ 9223372036854775807 then (if ((((t564 ++ (⟨#[32]⟩ : ByteArray)) ++ t565) ++ (⟨#[32]⟩ : ByteArray)) ++ t566).size + 1 ≤ 9223372036854775807 then ((spec_l18Num.f k a0_3).bind fun t567 => (if (((((t564 ++ (⟨#[32]⟩ : ByteArray)) ++ t565) ++ (⟨#[32]⟩ : ByteArray)) ++ t566) ++ (⟨#[32]⟩ : ByteArray)).size + t567.size ≤ 9223372036854775807 then (if ((((((t564 ++ (⟨#[32]⟩ : ByteArray)) ++ t565) ++ (⟨#[32]⟩ : ByteArray)) ++ t566) ++ (⟨#[32]⟩ : ByteArray)) ++ t567).size + 1 ≤ 9223372036854775807 then ((spec_l18Num.f k a0_4).bind fun t568 => (if (((((((t564 ++ (⟨#[32]⟩ : ByteArray)) ++ t565) ++ (⟨#[32]⟩ : ByteArray)) ++ t566) ++ (⟨#[32]⟩ : ByteArray)) ++ t567) ++ (⟨#[32]⟩ : ByteArray)).size + t568.size ≤ 9223372036854775807 then (some ((((((((t564 ++ (⟨#[32]⟩ : ByteArray)) ++ t565) ++ (⟨#[32]⟩ : ByteArray)) ++ t566) ++ (⟨#[32]⟩ : ByteArray)) ++ t567) ++ (⟨#[32]⟩ : ByteArray)) ++ t568)) else (none))) else (none)) else (none))) else (none)) else (none))) else (none)) else (none))) else (none))
theorem spec_EventText.mono : ∀ a0 a1 a2 a3 a4 k, LeO (spec_EventText.f k a0 a1 a2 a3 a4) (spec_EventText.f (k + 1) a0 a1 a2 a3 a4) := by
 intro a0 a1 a2 a3 a4 k
 unfold spec_EventText.f
 have mo0 := @spec_l18Num.mono
 exact zL
def spec_EventText.T1 : Bool × List (List Nat × List Nat) := (true, [([], []), ([0], [0]), ([1], [1]), ([2], [2]), ([], []), ([4], [4]), ([5, 2], [5]), ([3, 6], [3, 6]), ([7], [7]), ([], []), ([9], [9]), ([10, 6], [10]), ([8, 11], [8, 11]), ([12], [12]), ([], []), ([14], [14]), ([15, 11], [15]), ([13, 16], [13, 16]), ([17], [17]), ([], []), ([19], [19]), ([20, 16], [20]), ([18, 21], [18, 21]), ([22, 21, 0, 1, 2, 3, 4, 5, 6, 7, 8, 9, 10, 11, 12, 13, 14, 15, 16, 17, 18, 19, 20, 21, 22], [22])])
def spec_EventText.B1 : List Nat := [0, 1, 3, 7, 0, 16, 55, 127, 255, 0, 512, 1655, 4095, 8191, 0, 16384, 52855, 131071, 262143, 0, 524288, 1691255, 4194303, 8388607]
theorem spec_EventText.tab1 : rtab .any (opsOf Tryd.f23 1) = spec_EventText.T1 := by kernel_rfl
theorem spec_EventText.bits1 : waitsOk spec_EventText.T1.2 spec_EventText.B1 = true := by kernel_rfl
theorem spec_EventText.calls (k : Nat) (a0_0 : Int) (a0_1 : Int) (a0_2 : Int) (a0_3 : Int) (a0_4 : Int) (r : ByteArray) (w : World) (h : spec_EventText.f k a0_0 a0_1 a0_2 a0_3 a0_4 = some r) :
  Calls Tryd.prog 23 #[.agg #[.int .i64 a0_0, .int .i64 a0_1, .int .i64 a0_2, .int .i64 a0_3, .int .i64 a0_4]] w fun e w' => e = .returned (.string r) ∧ Below w.heap.size w w' := by
 have hu31 := Tryd.underlying31
 have HB := zM (Below.refl w.heap.size w)
 unfold spec_EventText.f at h
 have H := h
 clear h
 replace H := zO H
 obtain ⟨t564, A2, H⟩ := H
 replace H := zIp H
 obtain ⟨c3, H⟩ := H
 have c3b0 := eq_true c3
 have c3b1 : decide (t564.size + 1 ≤ 9223372036854775807) = true := decide_eq_true c3
 try have c3b2 : (9223372036854775807 < t564.size + 1) = False := eq_false (Nat.not_lt.2 c3)
 replace H := zO H
 obtain ⟨t565, A4, H⟩ := H
 replace H := zIp H
 obtain ⟨c5, H⟩ := H
 have c5b0 := eq_true c5
 have c5b1 : decide ((t564 ++ (⟨#[32]⟩ : ByteArray)).size + t565.size ≤ 9223372036854775807) = true := decide_eq_true c5
 try have c5b3 : (9223372036854775807 < t564.size + 1 + t565.size) = False := eq_false (by have h_ := c5; simp only [ByteArray.size_append] at h_; exact Nat.not_lt.2 h_)
 try have c5b2 : (9223372036854775807 < (t564 ++ (⟨#[32]⟩ : ByteArray)).size + t565.size) = False := eq_false (Nat.not_lt.2 c5)
 replace H := zIp H
 obtain ⟨c6, H⟩ := H
 have c6b0 := eq_true c6
 have c6b1 : decide (((t564 ++ (⟨#[32]⟩ : ByteArray)) ++ t565).size + 1 ≤ 9223372036854775807) = true := decide_eq_true c6
 try have c6b3 : (9223372036854775807 < t564.size + 1 + t565.size + 1) = False := eq_false (by have h_ := c6; simp only [ByteArray.size_append] at h_; exact Nat.not_lt.2 h_)
 try have c6b2 : (9223372036854775807 < ((t564 ++ (⟨#[32]⟩ : ByteArray)) ++ t565).size + 1) = False := eq_false (Nat.not_lt.2 c6)
 replace H := zO H
 obtain ⟨t566, A7, H⟩ := H
 replace H := zIp H
 obtain ⟨c8, H⟩ := H
 have c8b0 := eq_true c8
 have c8b1 : decide ((((t564 ++ (⟨#[32]⟩ : ByteArray)) ++ t565) ++ (⟨#[32]⟩ : ByteArray)).size + t566.size ≤ 9223372036854775807) = true := decide_eq_true c8
 try have c8b3 : (9223372036854775807 < t564.size + 1 + t565.size + 1 + t566.size) = False := eq_false (by have h_ := c8; simp only [ByteArray.size_append] at h_; exact Nat.not_lt.2 h_)
 try have c8b2 : (9223372036854775807 < (((t564 ++ (⟨#[32]⟩ : ByteArray)) ++ t565) ++ (⟨#[32]⟩ : ByteArray)).size + t566.size) = False := eq_false (Nat.not_lt.2 c8)
 replace H := zIp H
 obtain ⟨c9, H⟩ := H
 have c9b0 := eq_true c9
 have c9b1 : decide (((((t564 ++ (⟨#[32]⟩ : ByteArray)) ++ t565) ++ (⟨#[32]⟩ : ByteArray)) ++ t566).size + 1 ≤ 9223372036854775807) = true := decide_eq_true c9
 try have c9b3 : (9223372036854775807 < t564.size + 1 + t565.size + 1 + t566.size + 1) = False := eq_false (by have h_ := c9; simp only [ByteArray.size_append] at h_; exact Nat.not_lt.2 h_)
 try have c9b2 : (9223372036854775807 < ((((t564 ++ (⟨#[32]⟩ : ByteArray)) ++ t565) ++ (⟨#[32]⟩ : ByteArray)) ++ t566).size + 1) = False := eq_false (Nat.not_lt.2 c9)
 replace H := zO H
 obtain ⟨t567, A10, H⟩ := H
 replace H := zIp H
 obtain ⟨c11, H⟩ := H
 have c11b0 := eq_true c11
 have c11b1 : decide ((((((t564 ++ (⟨#[32]⟩ : ByteArray)) ++ t565) ++ (⟨#[32]⟩ : ByteArray)) ++ t566) ++ (⟨#[32]⟩ : ByteArray)).size + t567.size ≤ 9223372036854775807) = true := decide_eq_true c11
 try have c11b3 : (9223372036854775807 < t564.size + 1 + t565.size + 1 + t566.size + 1 + t567.size) = False := eq_false (by have h_ := c11; simp only [ByteArray.size_append] at h_; exact Nat.not_lt.2 h_)
 try have c11b2 : (9223372036854775807 < (((((t564 ++ (⟨#[32]⟩ : ByteArray)) ++ t565) ++ (⟨#[32]⟩ : ByteArray)) ++ t566) ++ (⟨#[32]⟩ : ByteArray)).size + t567.size) = False := eq_false (Nat.not_lt.2 c11)
 replace H := zIp H
 obtain ⟨c12, H⟩ := H
 have c12b0 := eq_true c12
 have c12b1 : decide (((((((t564 ++ (⟨#[32]⟩ : ByteArray)) ++ t565) ++ (⟨#[32]⟩ : ByteArray)) ++ t566) ++ (⟨#[32]⟩ : ByteArray)) ++ t567).size + 1 ≤ 9223372036854775807) = true := decide_eq_true c12
 try have c12b3 : (9223372036854775807 < t564.size + 1 + t565.size + 1 + t566.size + 1 + t567.size + 1) = False := eq_false (by have h_ := c12; simp only [ByteArray.size_append] at h_; exact Nat.not_lt.2 h_)
 try have c12b2 : (9223372036854775807 < ((((((t564 ++ (⟨#[32]⟩ : ByteArray)) ++ t565) ++ (⟨#[32]⟩ : ByteArray)) ++ t566) ++ (⟨#[32]⟩ : ByteArray)) ++ t567).size + 1) = False := eq_false (Nat.not_lt.2 c12)
 replace H := zO H
 obtain ⟨t568, A13, H⟩ := H
 replace H := zIp H
 obtain ⟨c14, H⟩ := H
 have c14b0 := eq_true c14
 have c14b1 : decide ((((((((t564 ++ (⟨#[32]⟩ : ByteArray)) ++ t565) ++ (⟨#[32]⟩ : ByteArray)) ++ t566) ++ (⟨#[32]⟩ : ByteArray)) ++ t567) ++ (⟨#[32]⟩ : ByteArray)).size + t568.size ≤ 9223372036854775807) = true := decide_eq_true c14
 try have c14b3 : (9223372036854775807 < t564.size + 1 + t565.size + 1 + t566.size + 1 + t567.size + 1 + t568.size) = False := eq_false (by have h_ := c14; simp only [ByteArray.size_append] at h_; exact Nat.not_lt.2 h_)
 try have c14b2 : (9223372036854775807 < (((((((t564 ++ (⟨#[32]⟩ : ByteArray)) ++ t565) ++ (⟨#[32]⟩ : ByteArray)) ++ t566) ++ (⟨#[32]⟩ : ByteArray)) ++ t567) ++ (⟨#[32]⟩ : ByteArray)).size + t568.size) = False := eq_false (Nat.not_lt.2 c14)
 obtain rfl := Option.some.inj H
 go_enter Tryd.func23, Tryd.ntmps23
 try go_wp2_with (first | ((with_reducible refine zBx 1 31 #[.int .i64 a0_0, .int .i64 a0_1, .int .i64 a0_2, .int .i64 a0_3, .int .i64 a0_4] ?_); intro gb563 hg w15 hbox hb; have BK563 := zM hbox; have GW563 := zM (zW hg (below_size zB3)); have GE563 := zM (zW hg (below_size zB3)); replace HB := zM (below_step zB3 hb); clear hb hbox hg))
 replace BK563 := zM (blk_drew BK563.1)
 replace HB := zM (below_drew1 HB.1)
 refine start_ (n := 24) (S := fun w' => w'.cell? ⟨gb563, 0, none⟩ = some (.int .i64 a0_0) ∧ w'.cell? ⟨gb563, 1, none⟩ = some (.int .i64 a0_1) ∧ w'.cell? ⟨gb563, 2, none⟩ = some (.int .i64 a0_2) ∧ w'.cell? ⟨gb563, 3, none⟩ = some (.int .i64 a0_3) ∧ w'.cell? ⟨gb563, 4, none⟩ = some (.int .i64 a0_4)) (ds := []) #[false, false, false, false, false, false, false, false, false, false, false, false, false, false, false, false, false, false, false, false, false, false, false, false] (by kernel_rfl) rfl rfl ⟨(blk_cell BK563.1 0).trans rfl, (blk_cell BK563.1 1).trans rfl, (blk_cell BK563.1 2).trans rfl, (blk_cell BK563.1 3).trans rfl, (blk_cell BK563.1 4).trans rfl⟩ (fun hHeld => ?_); refine with_tabW spec_EventText.tab1 spec_EventText.bits1 (fun HT_ HW_ => ?_)
 generalize w15.drew = w16 at BK563 HB hHeld ⊢
 refine zPu 0 ?_
 refine zPu 4 ?_
 refine zPu 9 ?_
 refine zPu 14 ?_
 refine zPu 19 ?_
 refine zTk5 1 hHeld ?_
 refine zTk5 5 hHeld ?_
 refine zTk5 10 hHeld ?_
 refine zTk5 15 hHeld ?_
 refine zTk5 20 hHeld ?_
 refine zOn 2 (some 5) fun K hK => ?_
 refine goes_ Tryd.func38 (by kernel_rfl) rfl #[.int .i64 a0_0] (by rfl) rfl rfl zT ?_
 with_reducible refine (spec_l18Num.calls k a0_0 t564 _ A2.1).mono ?_
 rintro e w17 ⟨rfl, hb⟩
 refine ⟨_, rfl, ?_⟩
 replace BK563 := zM (zb BK563.1 hb)
 replace HB := zM (below_step zB3 hb)
 refine hK.out _ _ zCs fun hHeld => ?_
 clear hK K
 refine zNo ?_
 refine zPu 3 ?_
 refine zOn 6 (some 9) fun K hK => ?_
 refine goes_ Tryd.func38 (by kernel_rfl) rfl #[.int .i64 a0_1] (by rfl) rfl rfl zT ?_
 with_reducible refine (spec_l18Num.calls k a0_1 t565 _ A4.1).mono ?_
 rintro e w18 ⟨rfl, hb⟩
 refine ⟨_, rfl, ?_⟩
 replace BK563 := zM (zb BK563.1 hb)
 replace HB := zM (below_step zB3 hb)
 refine hK.out _ _ zCs fun hHeld => ?_
 clear hK K
 refine zNo ?_
 refine zPu 7 ?_
 refine zPu 8 ?_
 refine zOn 11 (some 14) fun K hK => ?_
 refine goes_ Tryd.func38 (by kernel_rfl) rfl #[.int .i64 a0_2] (by rfl) rfl rfl zT ?_
 with_reducible refine (spec_l18Num.calls k a0_2 t566 _ A7.1).mono ?_
 rintro e w19 ⟨rfl, hb⟩
 refine ⟨_, rfl, ?_⟩
 replace BK563 := zM (zb BK563.1 hb)
 replace HB := zM (below_step zB3 hb)
 refine hK.out _ _ zCs fun hHeld => ?_
 clear hK K
 refine zNo ?_
 refine zPu 12 ?_
 refine zPu 13 ?_
 refine zOn 16 (some 19) fun K hK => ?_
 refine goes_ Tryd.func38 (by kernel_rfl) rfl #[.int .i64 a0_3] (by rfl) rfl rfl zT ?_
 with_reducible refine (spec_l18Num.calls k a0_3 t567 _ A10.1).mono ?_
 rintro e w20 ⟨rfl, hb⟩
 refine ⟨_, rfl, ?_⟩
 replace BK563 := zM (zb BK563.1 hb)
 replace HB := zM (below_step zB3 hb)
 refine hK.out _ _ zCs fun hHeld => ?_
 clear hK K
 refine zNo ?_
 refine zPu 17 ?_
 refine zPu 18 ?_
 refine zOn 21 (some 24) fun K hK => ?_
 refine goes_ Tryd.func38 (by kernel_rfl) rfl #[.int .i64 a0_4] (by rfl) rfl rfl zT ?_
 with_reducible refine (spec_l18Num.calls k a0_4 t568 _ A13.1).mono ?_
 rintro e w21 ⟨rfl, hb⟩
 refine ⟨_, rfl, ?_⟩
 replace BK563 := zM (zb BK563.1 hb)
 replace HB := zM (below_step zB3 hb)
 refine hK.out _ _ zCs fun hHeld => ?_
 clear hK K
 refine zNo ?_
 refine zPu 22 ?_
 refine zPu 23 ?_
 refine done_ (done_of HT_.1 (by kernel_rfl)) ?_
 try go_wp2
 go_ret
 exact ⟨zE, zB3⟩

/-! ### spec_TraceText: function 13 -/
def spec_TraceText.l0 : Nat → List (S31) → ByteArray → Int → Option (ByteArray)
 | 0, _, _, _ => none
 | k + 1, x0, x3, x4 => if x4 < (x0.length : Int) then (if (x0.length : Int) ≤ 60 then (if 0 ≤ x4 then ((spec_EventText.f k ((rd_T31 x0 x4).f0) ((rd_T31 x0 x4).f1) ((rd_T31 x0 x4).f2) ((rd_T31 x0 x4).f3) ((rd_T31 x0 x4).f4)).bind fun t570 => (if x3.size + t570.size ≤ 9223372036854775807 then (if (x3 ++ t570).size + 1 ≤ 9223372036854775807 then (spec_TraceText.l0 k x0 ((x3 ++ t570) ++ (⟨#[10]⟩ : ByteArray)) (wrap64 (x4 + 1))) else (none)) else (none))) else (none)) else (some x3)) else (some x3)
def spec_TraceText.f (k : Nat) (l0 : List (S31)) : Option (ByteArray) := spec_TraceText.l0 k l0 (⟨#[]⟩ : ByteArray) 0
theorem spec_TraceText.mono_l : ∀ k, (∀ y0 y1 y2, LeO (spec_TraceText.l0 k y0 y1 y2) (spec_TraceText.l0 (k + 1) y0 y1 y2))
 | 0 => fun _ _ _ r h => by simp [spec_TraceText.l0] at h
 | k + 1 => by
  have ih0 := spec_TraceText.mono_l k
  ·intros
   unfold spec_TraceText.l0
   have mo0 := @spec_EventText.mono
   exact zL
theorem spec_TraceText.mono : ∀ a0 k, LeO (spec_TraceText.f k a0) (spec_TraceText.f (k + 1) a0) := by
 intro a0 k
 have ih0 := spec_TraceText.mono_l k
 unfold spec_TraceText.f
 have mo0 := @spec_EventText.mono
 exact zL
theorem spec_TraceText.calls (k : Nat) (A0 : Option Addr) (c0 : Nat) (l0 : List (S31)) (r : ByteArray) (w : World) (hr0 : Kd.C k31 w A0 l0.length l0) (hc0 : l0.length ≤ c0) (h : spec_TraceText.f k l0 = some r) :
  Calls Tryd.prog 13 #[.slice A0 l0.length c0] w fun e w' => e = .returned (.string r) ∧ Below w.heap.size w w' := by
 have hu31 := Tryd.underlying31
 have HR0 := zM hr0
 have HC0 := zM hc0
 clear hr0 hc0
 have HB := zM (Below.refl w.heap.size w)
 unfold spec_TraceText.f at h
 have H := h
 clear h
 have H' := zM H
 clear H
 go_enter Tryd.func13, Tryd.ntmps13
 go_wp2
 go_loopg [3, 4] k (fun kq v3 v4 w' => ∃ (x3_1 : ByteArray) (x4_1 : Int), v3 = .string x3_1 ∧ v4 = .int .i64 x4_1 ∧ Aside0 (spec_TraceText.l0 kq l0 x3_1 x4_1 = some r) ∧ Aside0 (kq ≤ k) ∧ Aside0 (Below w.heap.size w w'))
 case atStart => exact ⟨((⟨#[]⟩ : ByteArray)), (0), zJJ, zJJ, H', ⟨Nat.le_refl _⟩, ⟨zB3⟩⟩
 case round =>
  clear H'
  obtain ⟨x3_1, x4_1, rfl, rfl, HA, HK1, HB⟩ := hrel
  cases gk with
  | zero => exact absurd HA.1 (by simp [spec_TraceText.l0])
  | succ k1 =>
   have H := HA.1
   clear HA
   simp only [spec_TraceText.l0] at H
   by_cases c2 : x4_1 < (l0.length : Int)
   rotate_left
   ·rw [if_neg c2] at H
    have c2b0 := decide_eq_false c2
    clear c2
    obtain rfl := Option.some.inj H
    go_wp2
    go_ret
    exact ⟨zE, zB3⟩
   rw [if_pos c2] at H
   have c2b0 := decide_eq_true c2
   clear c2
   by_cases c3 : (l0.length : Int) ≤ 60
   rotate_left
   ·rw [if_neg c3] at H
    have c3b0 := decide_eq_false c3
    have c3b1 : decide (l0.length ≤ 60) = false := decide_eq_false (by omega)
    clear c3
    obtain rfl := Option.some.inj H
    go_wp2
    go_ret
    exact ⟨zE, zB3⟩
   rw [if_pos c3] at H
   have c3b0 := decide_eq_true c3
   have c3b1 : decide (l0.length ≤ 60) = true := decide_eq_true (by omega)
   clear c3
   replace H := zIt H
   obtain ⟨c4b0, H⟩ := H
   replace H := zO H
   obtain ⟨t570, A5, H⟩ := H
   replace H := zIp H
   obtain ⟨c6, H⟩ := H
   have c6b0 := eq_true c6
   have c6b1 : decide (x3_1.size + t570.size ≤ 9223372036854775807) = true := decide_eq_true c6
   try have c6b2 : (9223372036854775807 < x3_1.size + t570.size) = False := eq_false (Nat.not_lt.2 c6)
   replace H := zIp H
   obtain ⟨c7, H⟩ := H
   have c7b0 := eq_true c7
   have c7b1 : decide ((x3_1 ++ t570).size + 1 ≤ 9223372036854775807) = true := decide_eq_true c7
   try have c7b3 : (9223372036854775807 < x3_1.size + t570.size + 1) = False := eq_false (by have h_ := c7; simp only [ByteArray.size_append] at h_; exact Nat.not_lt.2 h_)
   try have c7b2 : (9223372036854775807 < (x3_1 ++ t570).size + 1) = False := eq_false (Nat.not_lt.2 c7)
   have H' := zM H
   clear H
   obtain ⟨p569, q569, ad569, e569, hx569_0, hx569_1, hx569_2, hx569_3, hx569_4⟩ := zRd (at_T31 HR0.1 x4_1)
   cases e569
   replace hx569_0 := zHx HB.1 hx569_0
   replace hx569_1 := zHx HB.1 hx569_1
   replace hx569_2 := zHx HB.1 hx569_2
   replace hx569_3 := zHx HB.1 hx569_3
   replace hx569_4 := zHx HB.1 hx569_4
   go_wp2_with (first | ((with_reducible refine gate_callee (f := 23) rfl ?_); refine goesL_ (some 21) rfl rfl Tryd.func23 (by kernel_rfl) rfl #[.agg #[.int .i64 ((rd_T31 l0 x4_1).f0), .int .i64 ((rd_T31 l0 x4_1).f1), .int .i64 ((rd_T31 l0 x4_1).f2), .int .i64 ((rd_T31 l0 x4_1).f3), .int .i64 ((rd_T31 l0 x4_1).f4)]] rfl zT ?_; (with_reducible refine (spec_EventText.calls k1 ((rd_T31 l0 x4_1).f0) ((rd_T31 l0 x4_1).f1) ((rd_T31 l0 x4_1).f2) ((rd_T31 l0 x4_1).f3) ((rd_T31 l0 x4_1).f4) t570 _ A5.1).mono ?_); rintro e w8 ⟨rfl, hb⟩; refine ⟨_, rfl, ?_⟩; replace HB := zM (below_step zB3 hb); clear hb))
   go_roundg k1
   case measure => have := HK1.1; omega
   case rel => exact ⟨((x3_1 ++ t570) ++ (⟨#[10]⟩ : ByteArray)), (wrap64 (x4_1 + 1)), zJJ, zJJ, H', ⟨by have := HK1.1; omega⟩, ⟨zB3⟩⟩

/-! ### spec_l19DrawEvent: function 19 -/
def spec_l19DrawEvent.f (s0_0 : List Int) (s0_1 : Int) (s0_2 : Int) : Option (Int × Int × Int × Int × Int × Int × Int) := (spec_l1Below.f s0_0 s0_1 s0_2 3).bind fun bt572 => ((spec_l1Below.f s0_0 bt572.2.1 bt572.2.2 6).bind fun bt575 => ((spec_l1Below.f s0_0 bt575.2.1 bt575.2.2 4).bind fun bt579 => (if bt579.1 = 0 then ((spec_l1Below.f s0_0 bt579.2.1 bt579.2.2 6).bind fun bt582 => ((spec_l1Below.f s0_0 bt582.2.1 bt582.2.2 4).bind fun bt585 => (some (bt572.1, bt575.1, bt582.1, bt585.1, (-1), bt585.2.1, bt585.2.2)))) else (if bt579.1 = 1 then ((spec_l1Below.f s0_0 bt579.2.1 bt579.2.2 6).bind fun bt588 => ((spec_l1Below.f s0_0 bt588.2.1 bt588.2.2 4).bind fun bt591 => (some (bt572.1, bt575.1, bt588.1, (-1), bt591.1, bt591.2.1, bt591.2.2)))) else (if bt579.1 = 2 then ((spec_l1Below.f s0_0 bt579.2.1 bt579.2.2 6).bind fun bt594 => ((spec_l1Below.f s0_0 bt594.2.1 bt594.2.2 4).bind fun bt597 => ((spec_l1Below.f s0_0 bt597.2.1 bt597.2.2 4).bind fun bt600 => (some (bt572.1, bt575.1, bt594.1, bt597.1, bt600.1, bt600.2.1, bt600.2.2))))) else (some (bt572.1, bt575.1, (-1), (-1), (-1), bt579.2.1, bt579.2.2)))))))
theorem spec_l19DrawEvent.calls (g : Nat) (s0_0 : List Int) (s0_1 : Int) (s0_2 : Int) (r1 : Int) (r2 : Int) (r3 : Int) (r4 : Int) (r5 : Int) (r6 : Int) (r7 : Int) (w0 w : World) (hI : IsS64 w0 w g s0_0 s0_1 s0_2) (hB : Below w0.heap.size w0 w) (h : spec_l19DrawEvent.f s0_0 s0_1 s0_2 = some (r1, r2, r3, r4, r5, r6, r7)) :
  Calls Tryd.prog 19 #[.pointer (some ⟨g, 0, none⟩)] w fun e w' => e = .returned (.agg #[.int .i64 r1, .int .i64 r2, .int .i64 r3, .int .i64 r4, .int .i64 r5]) ∧ IsS64 w0 w' g s0_0 r6 r7 ∧ Below w0.heap.size w0 w' ∧ KeepBut w w' g none := by
 have hu31 := Tryd.underlying31
 have HI0 := zM hI
 have HK := zM (KeepBut.refl w g none)
 have HL := zM hB.size
 clear hI
 have HW0 := zM hB.size
 have HB := zM hB
 clear hB
 unfold spec_l19DrawEvent.f at h
 have H := h
 clear h
 replace H := zO H
 obtain ⟨⟨t572, t573, t574⟩, A2, H⟩ := H
 try dsimp only at H
 replace H := zO H
 obtain ⟨⟨t575, t576, t577⟩, A3, H⟩ := H
 try dsimp only at H
 replace H := zO H
 obtain ⟨⟨t579, t580, t581⟩, A4, H⟩ := H
 try dsimp only at H
 by_cases c5 : t579 = 0
 ·rw [if_pos c5] at H
  have c5b0 : (t579 == 0) = true := beq_iff_eq.mpr c5
  have c5b1 : (t579 != 0) = false := bne_eq_false_iff_eq.mpr c5
  clear c5
  replace H := zO H
  obtain ⟨⟨t582, t583, t584⟩, A6, H⟩ := H
  try dsimp only at H
  replace H := zO H
  obtain ⟨⟨t585, t586, t587⟩, A7, H⟩ := H
  try dsimp only at H
  simp only [Option.some.injEq, Prod.mk.injEq] at H
  obtain ⟨rfl, rfl, rfl, rfl, rfl, rfl, rfl⟩ := H
  go_enter Tryd.func19, Tryd.ntmps19
  go_wp2_with (first | ((with_reducible refine zBx 2 31 #[.int .i64 0, .int .i64 0, .int .i64 0, .int .i64 0, .int .i64 0] ?_); intro gb571 hg w8 hbox hb; replace HB := zM (below_step zB1 hb); have BK571 := zM hbox; have GW571 := zM ((by rw [hg]; exact (keep_size (w := w) (g := g) (row := none) zB2) : w.heap.size ≤ gb571)); have GE571 := zM ((Nat.le_trans HW0.1 (by rw [hg]; exact (keep_size (w := w) (g := g) (row := none) zB2) : w.heap.size ≤ gb571) : w0.heap.size ≤ gb571)); replace HK := zM (KeepBut.trans zB2 (KeepBut.of_below hb g none) (.inl rfl)); have NB0_571 := zM ((by rw [hg]; exact Nat.ne_of_lt (IsS64.lt (show IsS64 w0 _ g s0_0 s0_1 s0_2 from zB0)) : g ≠ gb571)); have NB571_0 := zM ((by rw [hg]; exact Nat.ne_of_gt (IsS64.lt (show IsS64 w0 _ g s0_0 s0_1 s0_2 from zB0)) : gb571 ≠ g)); replace HI0 := zM (IsS64.below zB0 hb); clear hb hbox hg) | ((with_reducible refine gate_callee (f := 18) rfl ?_); refine goesL_ (some 5) rfl rfl Tryd.func18 (by kernel_rfl) rfl #[.pointer (some ⟨g, 0, none⟩), .int .i64 3] rfl zT ?_; (with_reducible refine (spec_l1Below.calls g s0_0 s0_1 s0_2 3 t572 t573 t574 w0 _ ?side1 ?side2 A2.1).mono ?_); (case side1 => exact zB63); (case side2 => exact zB1); rintro e w9 ⟨rfl, hi, hb, hk⟩; refine ⟨_, rfl, ?_⟩; replace BK571 := zM (zh hk BK571.1 NB571_0.1); replace HK := zM (KeepBut.trans zB2 hk (.inl rfl)); replace HB := zM hb; replace HI0 := zM hi; clear hb hk hi) | ((with_reducible refine gate_callee (f := 18) rfl ?_); refine goesL_ (some 7) rfl rfl Tryd.func18 (by kernel_rfl) rfl #[.pointer (some ⟨g, 0, none⟩), .int .i64 6] rfl zT ?_; (with_reducible refine (spec_l1Below.calls g s0_0 t573 t574 6 t575 t576 t577 w0 _ ?side1 ?side2 A3.1).mono ?_); (case side1 => exact zB63); (case side2 => exact zB1); rintro e w10 ⟨rfl, hi, hb, hk⟩; refine ⟨_, rfl, ?_⟩; replace BK571 := zM (zh hk BK571.1 NB571_0.1); replace HK := zM (KeepBut.trans zB2 hk (.inl rfl)); replace HB := zM hb; replace HI0 := zM hi; clear hb hk hi) | ((with_reducible refine zBx 3 31 #[.int .i64 0, .int .i64 0, .int .i64 0, .int .i64 0, .int .i64 0] ?_); intro gb578 hg w11 hbox hb; replace HB := zM (below_step zB1 hb); have BK578 := zM hbox; have GW578 := zM ((by rw [hg]; exact (keep_size (w := w) (g := g) (row := none) zB2) : w.heap.size ≤ gb578)); have GE578 := zM ((Nat.le_trans HW0.1 (by rw [hg]; exact (keep_size (w := w) (g := g) (row := none) zB2) : w.heap.size ≤ gb578) : w0.heap.size ≤ gb578)); replace HK := zM (KeepBut.trans zB2 (KeepBut.of_below hb g none) (.inl rfl)); have NB571_578 := zM ((zn BK571.1 hg : gb571 ≠ gb578)); have NB578_571 := zM ((zm BK571.1 hg : gb578 ≠ gb571)); replace BK571 := zM (zb BK571.1 hb); have NB0_578 := zM ((by rw [hg]; exact Nat.ne_of_lt (IsS64.lt (show IsS64 w0 _ g s0_0 t576 t577 from zB63)) : g ≠ gb578)); have NB578_0 := zM ((by rw [hg]; exact Nat.ne_of_gt (IsS64.lt (show IsS64 w0 _ g s0_0 t576 t577 from zB63)) : gb578 ≠ g)); replace HI0 := zM (IsS64.below zB63 hb); clear hb hbox hg; have hnb12 := NB578_571.1; have hnc12 := NB571_578.1; have hnb13 := NB578_0.1; have hnc13 := NB0_578.1; have hcz14 := zc_5 (w := w11) BK578.1) | ((with_reducible refine gate_callee (f := 18) rfl ?_); refine goesL_ (some 10) rfl rfl Tryd.func18 (by kernel_rfl) rfl #[.pointer (some ⟨g, 0, none⟩), .int .i64 4] rfl zT ?_; (with_reducible refine (spec_l1Below.calls g s0_0 t576 t577 4 t579 t580 t581 w0 _ ?side1 ?side2 A4.1).mono ?_); (case side1 => exact zB66); (case side2 => exact zB1); rintro e w15 ⟨rfl, hi, hb, hk⟩; refine ⟨_, rfl, ?_⟩; replace BK571 := zM (KeepBut.blk hk (g' := gb571) (o := .cells #[.int .i64 0, .int .i64 0, .int .i64 0, .int .i64 0, .int .i64 0] 31 (0, 0)) zPq NB571_0.1 (by simp)); replace BK578 := zM (KeepBut.blk hk (g' := gb578) (o := .cells #[.int .i64 t572, .int .i64 t575, .int .i64 (-1), .int .i64 (-1), .int .i64 (-1)] 31 (0, 0)) (by exact zp5 (zK BK578.1)) NB578_0.1 (by simp)); replace HK := zM (KeepBut.trans zB2 hk (.inl rfl)); replace HB := zM hb; replace HI0 := zM hi; clear hb hk hi) | ((with_reducible refine gate_callee (f := 18) rfl ?_); refine goesL_ (some 14) rfl rfl Tryd.func18 (by kernel_rfl) rfl #[.pointer (some ⟨g, 0, none⟩), .int .i64 6] rfl zT ?_; (with_reducible refine (spec_l1Below.calls g s0_0 t580 t581 6 t582 t583 t584 w0 _ ?side1 ?side2 A6.1).mono ?_); (case side1 => exact zB66); (case side2 => exact zB1); rintro e w16 ⟨rfl, hi, hb, hk⟩; refine ⟨_, rfl, ?_⟩; replace BK571 := zM (zh hk BK571.1 NB571_0.1); replace BK578 := zM (zh hk BK578.1 NB578_0.1); replace HK := zM (KeepBut.trans zB2 hk (.inl rfl)); replace HB := zM hb; replace HI0 := zM hi; clear hb hk hi; have hcz17 := zc_5 (w := w16) BK578.1) | ((with_reducible refine gate_callee (f := 18) rfl ?_); refine goesL_ (some 17) rfl rfl Tryd.func18 (by kernel_rfl) rfl #[.pointer (some ⟨g, 0, none⟩), .int .i64 4] rfl zT ?_; (with_reducible refine (spec_l1Below.calls g s0_0 t583 t584 4 t585 t586 t587 w0 _ ?side1 ?side2 A7.1).mono ?_); (case side1 => exact zB66); (case side2 => exact zB1); rintro e w18 ⟨rfl, hi, hb, hk⟩; refine ⟨_, rfl, ?_⟩; replace BK571 := zM (KeepBut.blk hk (g' := gb571) (o := .cells #[.int .i64 0, .int .i64 0, .int .i64 0, .int .i64 0, .int .i64 0] 31 (0, 0)) zPq NB571_0.1 (by simp)); replace BK578 := zM (KeepBut.blk hk (g' := gb578) (o := .cells #[.int .i64 t572, .int .i64 t575, .int .i64 t582, .int .i64 (-1), .int .i64 (-1)] 31 (0, 0)) zPq NB578_0.1 (by simp)); replace HK := zM (KeepBut.trans zB2 hk (.inl rfl)); replace HB := zM hb; replace HI0 := zM hi; clear hb hk hi; have hcz19 := zc_5 (w := w18) BK578.1; have hnb20 := NB571_0.1; have hnc20 := NB0_571.1; have hcz21 := zc_5 (w := w18) BK571.1))
  refine bodyPost_ret (results_cell_row rfl _ _ gb571 31 #[.int .i64 t572, .int .i64 t575, .int .i64 t582, .int .i64 t585, .int .i64 (-1)] (0, 0) _ rfl zPq Tryd.underlying31 rfl (by kernel_rfl)) rfl ?_
  exact ⟨zE, zB66, zB1, zB2⟩
 rw [if_neg c5] at H
 have c5b0 : (t579 == 0) = false := beq_eq_false_iff_ne.mpr c5
 have c5b1 : (t579 != 0) = true := bne_iff_ne.mpr c5
 by_cases c22 : t579 = 1
 ·rw [if_pos c22] at H
  have c22b0 : (t579 == 1) = true := beq_iff_eq.mpr c22
  have c22b1 : (t579 != 1) = false := bne_eq_false_iff_eq.mpr c22
  clear c22
  replace H := zO H
  obtain ⟨⟨t588, t589, t590⟩, A23, H⟩ := H
  try dsimp only at H
  replace H := zO H
  obtain ⟨⟨t591, t592, t593⟩, A24, H⟩ := H
  try dsimp only at H
  simp only [Option.some.injEq, Prod.mk.injEq] at H
  obtain ⟨rfl, rfl, rfl, rfl, rfl, rfl, rfl⟩ := H
  go_enter Tryd.func19, Tryd.ntmps19
  go_wp2_with (first | ((with_reducible refine zBx 2 31 #[.int .i64 0, .int .i64 0, .int .i64 0, .int .i64 0, .int .i64 0] ?_); intro gb571 hg w25 hbox hb; replace HB := zM (below_step zB1 hb); have BK571 := zM hbox; have GW571 := zM ((by rw [hg]; exact (keep_size (w := w) (g := g) (row := none) zB2) : w.heap.size ≤ gb571)); have GE571 := zM ((Nat.le_trans HW0.1 (by rw [hg]; exact (keep_size (w := w) (g := g) (row := none) zB2) : w.heap.size ≤ gb571) : w0.heap.size ≤ gb571)); replace HK := zM (KeepBut.trans zB2 (KeepBut.of_below hb g none) (.inl rfl)); have NB0_571 := zM ((by rw [hg]; exact Nat.ne_of_lt (IsS64.lt (show IsS64 w0 _ g s0_0 s0_1 s0_2 from zB0)) : g ≠ gb571)); have NB571_0 := zM ((by rw [hg]; exact Nat.ne_of_gt (IsS64.lt (show IsS64 w0 _ g s0_0 s0_1 s0_2 from zB0)) : gb571 ≠ g)); replace HI0 := zM (IsS64.below zB0 hb); clear hb hbox hg) | ((with_reducible refine gate_callee (f := 18) rfl ?_); refine goesL_ (some 5) rfl rfl Tryd.func18 (by kernel_rfl) rfl #[.pointer (some ⟨g, 0, none⟩), .int .i64 3] rfl zT ?_; (with_reducible refine (spec_l1Below.calls g s0_0 s0_1 s0_2 3 t572 t573 t574 w0 _ ?side1 ?side2 A2.1).mono ?_); (case side1 => exact zB63); (case side2 => exact zB1); rintro e w26 ⟨rfl, hi, hb, hk⟩; refine ⟨_, rfl, ?_⟩; replace BK571 := zM (zh hk BK571.1 NB571_0.1); replace HK := zM (KeepBut.trans zB2 hk (.inl rfl)); replace HB := zM hb; replace HI0 := zM hi; clear hb hk hi) | ((with_reducible refine gate_callee (f := 18) rfl ?_); refine goesL_ (some 7) rfl rfl Tryd.func18 (by kernel_rfl) rfl #[.pointer (some ⟨g, 0, none⟩), .int .i64 6] rfl zT ?_; (with_reducible refine (spec_l1Below.calls g s0_0 t573 t574 6 t575 t576 t577 w0 _ ?side1 ?side2 A3.1).mono ?_); (case side1 => exact zB63); (case side2 => exact zB1); rintro e w27 ⟨rfl, hi, hb, hk⟩; refine ⟨_, rfl, ?_⟩; replace BK571 := zM (zh hk BK571.1 NB571_0.1); replace HK := zM (KeepBut.trans zB2 hk (.inl rfl)); replace HB := zM hb; replace HI0 := zM hi; clear hb hk hi) | ((with_reducible refine zBx 3 31 #[.int .i64 0, .int .i64 0, .int .i64 0, .int .i64 0, .int .i64 0] ?_); intro gb578 hg w28 hbox hb; replace HB := zM (below_step zB1 hb); have BK578 := zM hbox; have GW578 := zM ((by rw [hg]; exact (keep_size (w := w) (g := g) (row := none) zB2) : w.heap.size ≤ gb578)); have GE578 := zM ((Nat.le_trans HW0.1 (by rw [hg]; exact (keep_size (w := w) (g := g) (row := none) zB2) : w.heap.size ≤ gb578) : w0.heap.size ≤ gb578)); replace HK := zM (KeepBut.trans zB2 (KeepBut.of_below hb g none) (.inl rfl)); have NB571_578 := zM ((zn BK571.1 hg : gb571 ≠ gb578)); have NB578_571 := zM ((zm BK571.1 hg : gb578 ≠ gb571)); replace BK571 := zM (zb BK571.1 hb); have NB0_578 := zM ((by rw [hg]; exact Nat.ne_of_lt (IsS64.lt (show IsS64 w0 _ g s0_0 t576 t577 from zB63)) : g ≠ gb578)); have NB578_0 := zM ((by rw [hg]; exact Nat.ne_of_gt (IsS64.lt (show IsS64 w0 _ g s0_0 t576 t577 from zB63)) : gb578 ≠ g)); replace HI0 := zM (IsS64.below zB63 hb); clear hb hbox hg; have hnb29 := NB578_571.1; have hnc29 := NB571_578.1; have hnb30 := NB578_0.1; have hnc30 := NB0_578.1; have hcz31 := zc_5 (w := w28) BK578.1) | ((with_reducible refine gate_callee (f := 18) rfl ?_); refine goesL_ (some 10) rfl rfl Tryd.func18 (by kernel_rfl) rfl #[.pointer (some ⟨g, 0, none⟩), .int .i64 4] rfl zT ?_; (with_reducible refine (spec_l1Below.calls g s0_0 t576 t577 4 t579 t580 t581 w0 _ ?side1 ?side2 A4.1).mono ?_); (case side1 => exact zB66); (case side2 => exact zB1); rintro e w32 ⟨rfl, hi, hb, hk⟩; refine ⟨_, rfl, ?_⟩; replace BK571 := zM (KeepBut.blk hk (g' := gb571) (o := .cells #[.int .i64 0, .int .i64 0, .int .i64 0, .int .i64 0, .int .i64 0] 31 (0, 0)) zPq NB571_0.1 (by simp)); replace BK578 := zM (KeepBut.blk hk (g' := gb578) (o := .cells #[.int .i64 t572, .int .i64 t575, .int .i64 (-1), .int .i64 (-1), .int .i64 (-1)] 31 (0, 0)) (by exact zp5 (zK BK578.1)) NB578_0.1 (by simp)); replace HK := zM (KeepBut.trans zB2 hk (.inl rfl)); replace HB := zM hb; replace HI0 := zM hi; clear hb hk hi) | ((with_reducible refine gate_callee (f := 18) rfl ?_); refine goesL_ (some 22) rfl rfl Tryd.func18 (by kernel_rfl) rfl #[.pointer (some ⟨g, 0, none⟩), .int .i64 6] rfl zT ?_; (with_reducible refine (spec_l1Below.calls g s0_0 t580 t581 6 t588 t589 t590 w0 _ ?side1 ?side2 A23.1).mono ?_); (case side1 => exact zB66); (case side2 => exact zB1); rintro e w33 ⟨rfl, hi, hb, hk⟩; refine ⟨_, rfl, ?_⟩; replace BK571 := zM (zh hk BK571.1 NB571_0.1); replace BK578 := zM (zh hk BK578.1 NB578_0.1); replace HK := zM (KeepBut.trans zB2 hk (.inl rfl)); replace HB := zM hb; replace HI0 := zM hi; clear hb hk hi; have hcz34 := zc_5 (w := w33) BK578.1) | ((with_reducible refine gate_callee (f := 18) rfl ?_); refine goesL_ (some 25) rfl rfl Tryd.func18 (by kernel_rfl) rfl #[.pointer (some ⟨g, 0, none⟩), .int .i64 4] rfl zT ?_; (with_reducible refine (spec_l1Below.calls g s0_0 t589 t590 4 t591 t592 t593 w0 _ ?side1 ?side2 A24.1).mono ?_); (case side1 => exact zB66); (case side2 => exact zB1); rintro e w35 ⟨rfl, hi, hb, hk⟩; refine ⟨_, rfl, ?_⟩; replace BK571 := zM (KeepBut.blk hk (g' := gb571) (o := .cells #[.int .i64 0, .int .i64 0, .int .i64 0, .int .i64 0, .int .i64 0] 31 (0, 0)) zPq NB571_0.1 (by simp)); replace BK578 := zM (KeepBut.blk hk (g' := gb578) (o := .cells #[.int .i64 t572, .int .i64 t575, .int .i64 t588, .int .i64 (-1), .int .i64 (-1)] 31 (0, 0)) zPq NB578_0.1 (by simp)); replace HK := zM (KeepBut.trans zB2 hk (.inl rfl)); replace HB := zM hb; replace HI0 := zM hi; clear hb hk hi; have hcz36 := zc_5 (w := w35) BK578.1; have hnb37 := NB571_0.1; have hnc37 := NB0_571.1; have hcz38 := zc_5 (w := w35) BK571.1))
  refine bodyPost_ret (results_cell_row rfl _ _ gb571 31 #[.int .i64 t572, .int .i64 t575, .int .i64 t588, .int .i64 (-1), .int .i64 t591] (0, 0) _ rfl zPq Tryd.underlying31 rfl (by kernel_rfl)) rfl ?_
  exact ⟨zE, zB66, zB1, zB2⟩
 rw [if_neg c22] at H
 have c22b0 : (t579 == 1) = false := beq_eq_false_iff_ne.mpr c22
 have c22b1 : (t579 != 1) = true := bne_iff_ne.mpr c22
 by_cases c39 : t579 = 2
 rotate_left
 ·rw [if_neg c39] at H
  have c39b0 : (t579 == 2) = false := beq_eq_false_iff_ne.mpr c39
  have c39b1 : (t579 != 2) = true := bne_iff_ne.mpr c39
  simp only [Option.some.injEq, Prod.mk.injEq] at H
  obtain ⟨rfl, rfl, rfl, rfl, rfl, rfl, rfl⟩ := H
  go_enter Tryd.func19, Tryd.ntmps19
  go_wp2_with (first | ((with_reducible refine zBx 2 31 #[.int .i64 0, .int .i64 0, .int .i64 0, .int .i64 0, .int .i64 0] ?_); intro gb571 hg w59 hbox hb; replace HB := zM (below_step zB1 hb); have BK571 := zM hbox; have GW571 := zM ((by rw [hg]; exact (keep_size (w := w) (g := g) (row := none) zB2) : w.heap.size ≤ gb571)); have GE571 := zM ((Nat.le_trans HW0.1 (by rw [hg]; exact (keep_size (w := w) (g := g) (row := none) zB2) : w.heap.size ≤ gb571) : w0.heap.size ≤ gb571)); replace HK := zM (KeepBut.trans zB2 (KeepBut.of_below hb g none) (.inl rfl)); have NB0_571 := zM ((by rw [hg]; exact Nat.ne_of_lt (IsS64.lt (show IsS64 w0 _ g s0_0 s0_1 s0_2 from zB0)) : g ≠ gb571)); have NB571_0 := zM ((by rw [hg]; exact Nat.ne_of_gt (IsS64.lt (show IsS64 w0 _ g s0_0 s0_1 s0_2 from zB0)) : gb571 ≠ g)); replace HI0 := zM (IsS64.below zB0 hb); clear hb hbox hg) | ((with_reducible refine gate_callee (f := 18) rfl ?_); refine goesL_ (some 5) rfl rfl Tryd.func18 (by kernel_rfl) rfl #[.pointer (some ⟨g, 0, none⟩), .int .i64 3] rfl zT ?_; (with_reducible refine (spec_l1Below.calls g s0_0 s0_1 s0_2 3 t572 t573 t574 w0 _ ?side1 ?side2 A2.1).mono ?_); (case side1 => exact zB63); (case side2 => exact zB1); rintro e w60 ⟨rfl, hi, hb, hk⟩; refine ⟨_, rfl, ?_⟩; replace BK571 := zM (zh hk BK571.1 NB571_0.1); replace HK := zM (KeepBut.trans zB2 hk (.inl rfl)); replace HB := zM hb; replace HI0 := zM hi; clear hb hk hi) | ((with_reducible refine gate_callee (f := 18) rfl ?_); refine goesL_ (some 7) rfl rfl Tryd.func18 (by kernel_rfl) rfl #[.pointer (some ⟨g, 0, none⟩), .int .i64 6] rfl zT ?_; (with_reducible refine (spec_l1Below.calls g s0_0 t573 t574 6 t575 t576 t577 w0 _ ?side1 ?side2 A3.1).mono ?_); (case side1 => exact zB63); (case side2 => exact zB1); rintro e w61 ⟨rfl, hi, hb, hk⟩; refine ⟨_, rfl, ?_⟩; replace BK571 := zM (zh hk BK571.1 NB571_0.1); replace HK := zM (KeepBut.trans zB2 hk (.inl rfl)); replace HB := zM hb; replace HI0 := zM hi; clear hb hk hi) | ((with_reducible refine zBx 3 31 #[.int .i64 0, .int .i64 0, .int .i64 0, .int .i64 0, .int .i64 0] ?_); intro gb578 hg w62 hbox hb; replace HB := zM (below_step zB1 hb); have BK578 := zM hbox; have GW578 := zM ((by rw [hg]; exact (keep_size (w := w) (g := g) (row := none) zB2) : w.heap.size ≤ gb578)); have GE578 := zM ((Nat.le_trans HW0.1 (by rw [hg]; exact (keep_size (w := w) (g := g) (row := none) zB2) : w.heap.size ≤ gb578) : w0.heap.size ≤ gb578)); replace HK := zM (KeepBut.trans zB2 (KeepBut.of_below hb g none) (.inl rfl)); have NB571_578 := zM ((zn BK571.1 hg : gb571 ≠ gb578)); have NB578_571 := zM ((zm BK571.1 hg : gb578 ≠ gb571)); replace BK571 := zM (zb BK571.1 hb); have NB0_578 := zM ((by rw [hg]; exact Nat.ne_of_lt (IsS64.lt (show IsS64 w0 _ g s0_0 t576 t577 from zB63)) : g ≠ gb578)); have NB578_0 := zM ((by rw [hg]; exact Nat.ne_of_gt (IsS64.lt (show IsS64 w0 _ g s0_0 t576 t577 from zB63)) : gb578 ≠ g)); replace HI0 := zM (IsS64.below zB63 hb); clear hb hbox hg; have hnb63 := NB578_571.1; have hnc63 := NB571_578.1; have hnb64 := NB578_0.1; have hnc64 := NB0_578.1; have hcz65 := zc_5 (w := w62) BK578.1) | ((with_reducible refine gate_callee (f := 18) rfl ?_); refine goesL_ (some 10) rfl rfl Tryd.func18 (by kernel_rfl) rfl #[.pointer (some ⟨g, 0, none⟩), .int .i64 4] rfl zT ?_; (with_reducible refine (spec_l1Below.calls g s0_0 t576 t577 4 t579 t580 t581 w0 _ ?side1 ?side2 A4.1).mono ?_); (case side1 => exact zB66); (case side2 => exact zB1); rintro e w66 ⟨rfl, hi, hb, hk⟩; refine ⟨_, rfl, ?_⟩; replace BK571 := zM (KeepBut.blk hk (g' := gb571) (o := .cells #[.int .i64 0, .int .i64 0, .int .i64 0, .int .i64 0, .int .i64 0] 31 (0, 0)) zPq NB571_0.1 (by simp)); replace BK578 := zM (KeepBut.blk hk (g' := gb578) (o := .cells #[.int .i64 t572, .int .i64 t575, .int .i64 (-1), .int .i64 (-1), .int .i64 (-1)] 31 (0, 0)) (by exact zp5 (zK BK578.1)) NB578_0.1 (by simp)); replace HK := zM (KeepBut.trans zB2 hk (.inl rfl)); replace HB := zM hb; replace HI0 := zM hi; clear hb hk hi; have hcz67 := zc_5 (w := w66) BK578.1; have hnb68 := NB571_0.1; have hnc68 := NB0_571.1; have hcz69 := zc_5 (w := w66) BK571.1))
  refine bodyPost_ret (results_cell_row rfl _ _ gb571 31 #[.int .i64 t572, .int .i64 t575, .int .i64 (-1), .int .i64 (-1), .int .i64 (-1)] (0, 0) _ rfl (by exact zp5 (zK BK571.1)) Tryd.underlying31 rfl (by kernel_rfl)) rfl ?_
  exact ⟨zE, zB66, zB1, zB2⟩
 rw [if_pos c39] at H
 have c39b0 : (t579 == 2) = true := beq_iff_eq.mpr c39
 have c39b1 : (t579 != 2) = false := bne_eq_false_iff_eq.mpr c39
 clear c39
 replace H := zO H
 obtain ⟨⟨t594, t595, t596⟩, A40, H⟩ := H
 try dsimp only at H
 replace H := zO H
 obtain ⟨⟨t597, t598, t599⟩, A41, H⟩ := H
 try dsimp only at H
 replace H := zO H
 obtain ⟨⟨t600, t601, t602⟩, A42, H⟩ := H
 try dsimp only at H
 simp only [Option.some.injEq, Prod.mk.injEq] at H
 obtain ⟨rfl, rfl, rfl, rfl, rfl, rfl, rfl⟩ := H
 go_enter Tryd.func19, Tryd.ntmps19
 go_wp2_with (first | ((with_reducible refine zBx 2 31 #[.int .i64 0, .int .i64 0, .int .i64 0, .int .i64 0, .int .i64 0] ?_); intro gb571 hg w43 hbox hb; replace HB := zM (below_step zB1 hb); have BK571 := zM hbox; have GW571 := zM ((by rw [hg]; exact (keep_size (w := w) (g := g) (row := none) zB2) : w.heap.size ≤ gb571)); have GE571 := zM ((Nat.le_trans HW0.1 (by rw [hg]; exact (keep_size (w := w) (g := g) (row := none) zB2) : w.heap.size ≤ gb571) : w0.heap.size ≤ gb571)); replace HK := zM (KeepBut.trans zB2 (KeepBut.of_below hb g none) (.inl rfl)); have NB0_571 := zM ((by rw [hg]; exact Nat.ne_of_lt (IsS64.lt (show IsS64 w0 _ g s0_0 s0_1 s0_2 from zB0)) : g ≠ gb571)); have NB571_0 := zM ((by rw [hg]; exact Nat.ne_of_gt (IsS64.lt (show IsS64 w0 _ g s0_0 s0_1 s0_2 from zB0)) : gb571 ≠ g)); replace HI0 := zM (IsS64.below zB0 hb); clear hb hbox hg) | ((with_reducible refine gate_callee (f := 18) rfl ?_); refine goesL_ (some 5) rfl rfl Tryd.func18 (by kernel_rfl) rfl #[.pointer (some ⟨g, 0, none⟩), .int .i64 3] rfl zT ?_; (with_reducible refine (spec_l1Below.calls g s0_0 s0_1 s0_2 3 t572 t573 t574 w0 _ ?side1 ?side2 A2.1).mono ?_); (case side1 => exact zB63); (case side2 => exact zB1); rintro e w44 ⟨rfl, hi, hb, hk⟩; refine ⟨_, rfl, ?_⟩; replace BK571 := zM (zh hk BK571.1 NB571_0.1); replace HK := zM (KeepBut.trans zB2 hk (.inl rfl)); replace HB := zM hb; replace HI0 := zM hi; clear hb hk hi) | ((with_reducible refine gate_callee (f := 18) rfl ?_); refine goesL_ (some 7) rfl rfl Tryd.func18 (by kernel_rfl) rfl #[.pointer (some ⟨g, 0, none⟩), .int .i64 6] rfl zT ?_; (with_reducible refine (spec_l1Below.calls g s0_0 t573 t574 6 t575 t576 t577 w0 _ ?side1 ?side2 A3.1).mono ?_); (case side1 => exact zB63); (case side2 => exact zB1); rintro e w45 ⟨rfl, hi, hb, hk⟩; refine ⟨_, rfl, ?_⟩; replace BK571 := zM (zh hk BK571.1 NB571_0.1); replace HK := zM (KeepBut.trans zB2 hk (.inl rfl)); replace HB := zM hb; replace HI0 := zM hi; clear hb hk hi) | ((with_reducible refine zBx 3 31 #[.int .i64 0, .int .i64 0, .int .i64 0, .int .i64 0, .int .i64 0] ?_); intro gb578 hg w46 hbox hb; replace HB := zM (below_step zB1 hb); have BK578 := zM hbox; have GW578 := zM ((by rw [hg]; exact (keep_size (w := w) (g := g) (row := none) zB2) : w.heap.size ≤ gb578)); have GE578 := zM ((Nat.le_trans HW0.1 (by rw [hg]; exact (keep_size (w := w) (g := g) (row := none) zB2) : w.heap.size ≤ gb578) : w0.heap.size ≤ gb578)); replace HK := zM (KeepBut.trans zB2 (KeepBut.of_below hb g none) (.inl rfl)); have NB571_578 := zM ((zn BK571.1 hg : gb571 ≠ gb578)); have NB578_571 := zM ((zm BK571.1 hg : gb578 ≠ gb571)); replace BK571 := zM (zb BK571.1 hb); have NB0_578 := zM ((by rw [hg]; exact Nat.ne_of_lt (IsS64.lt (show IsS64 w0 _ g s0_0 t576 t577 from zB63)) : g ≠ gb578)); have NB578_0 := zM ((by rw [hg]; exact Nat.ne_of_gt (IsS64.lt (show IsS64 w0 _ g s0_0 t576 t577 from zB63)) : gb578 ≠ g)); replace HI0 := zM (IsS64.below zB63 hb); clear hb hbox hg; have hnb47 := NB578_571.1; have hnc47 := NB571_578.1; have hnb48 := NB578_0.1; have hnc48 := NB0_578.1; have hcz49 := zc_5 (w := w46) BK578.1) | ((with_reducible refine gate_callee (f := 18) rfl ?_); refine goesL_ (some 10) rfl rfl Tryd.func18 (by kernel_rfl) rfl #[.pointer (some ⟨g, 0, none⟩), .int .i64 4] rfl zT ?_; (with_reducible refine (spec_l1Below.calls g s0_0 t576 t577 4 t579 t580 t581 w0 _ ?side1 ?side2 A4.1).mono ?_); (case side1 => exact zB66); (case side2 => exact zB1); rintro e w50 ⟨rfl, hi, hb, hk⟩; refine ⟨_, rfl, ?_⟩; replace BK571 := zM (KeepBut.blk hk (g' := gb571) (o := .cells #[.int .i64 0, .int .i64 0, .int .i64 0, .int .i64 0, .int .i64 0] 31 (0, 0)) zPq NB571_0.1 (by simp)); replace BK578 := zM (KeepBut.blk hk (g' := gb578) (o := .cells #[.int .i64 t572, .int .i64 t575, .int .i64 (-1), .int .i64 (-1), .int .i64 (-1)] 31 (0, 0)) (by exact zp5 (zK BK578.1)) NB578_0.1 (by simp)); replace HK := zM (KeepBut.trans zB2 hk (.inl rfl)); replace HB := zM hb; replace HI0 := zM hi; clear hb hk hi) | ((with_reducible refine gate_callee (f := 18) rfl ?_); refine goesL_ (some 30) rfl rfl Tryd.func18 (by kernel_rfl) rfl #[.pointer (some ⟨g, 0, none⟩), .int .i64 6] rfl zT ?_; (with_reducible refine (spec_l1Below.calls g s0_0 t580 t581 6 t594 t595 t596 w0 _ ?side1 ?side2 A40.1).mono ?_); (case side1 => exact zB66); (case side2 => exact zB1); rintro e w51 ⟨rfl, hi, hb, hk⟩; refine ⟨_, rfl, ?_⟩; replace BK571 := zM (zh hk BK571.1 NB571_0.1); replace BK578 := zM (zh hk BK578.1 NB578_0.1); replace HK := zM (KeepBut.trans zB2 hk (.inl rfl)); replace HB := zM hb; replace HI0 := zM hi; clear hb hk hi; have hcz52 := zc_5 (w := w51) BK578.1) | ((with_reducible refine gate_callee (f := 18) rfl ?_); refine goesL_ (some 33) rfl rfl Tryd.func18 (by kernel_rfl) rfl #[.pointer (some ⟨g, 0, none⟩), .int .i64 4] rfl zT ?_; (with_reducible refine (spec_l1Below.calls g s0_0 t595 t596 4 t597 t598 t599 w0 _ ?side1 ?side2 A41.1).mono ?_); (case side1 => exact zB66); (case side2 => exact zB1); rintro e w53 ⟨rfl, hi, hb, hk⟩; refine ⟨_, rfl, ?_⟩; replace BK571 := zM (KeepBut.blk hk (g' := gb571) (o := .cells #[.int .i64 0, .int .i64 0, .int .i64 0, .int .i64 0, .int .i64 0] 31 (0, 0)) zPq NB571_0.1 (by simp)); replace BK578 := zM (KeepBut.blk hk (g' := gb578) (o := .cells #[.int .i64 t572, .int .i64 t575, .int .i64 t594, .int .i64 (-1), .int .i64 (-1)] 31 (0, 0)) zPq NB578_0.1 (by simp)); replace HK := zM (KeepBut.trans zB2 hk (.inl rfl)); replace HB := zM hb; replace HI0 := zM hi; clear hb hk hi; have hcz54 := zc_5 (w := w53) BK578.1) | ((with_reducible refine gate_callee (f := 18) rfl ?_); refine goesL_ (some 36) rfl rfl Tryd.func18 (by kernel_rfl) rfl #[.pointer (some ⟨g, 0, none⟩), .int .i64 4] rfl zT ?_; (with_reducible refine (spec_l1Below.calls g s0_0 t598 t599 4 t600 t601 t602 w0 _ ?side1 ?side2 A42.1).mono ?_); (case side1 => exact zB66); (case side2 => exact zB1); rintro e w55 ⟨rfl, hi, hb, hk⟩; refine ⟨_, rfl, ?_⟩; replace BK571 := zM (KeepBut.blk hk (g' := gb571) (o := .cells #[.int .i64 0, .int .i64 0, .int .i64 0, .int .i64 0, .int .i64 0] 31 (0, 0)) zPq NB571_0.1 (by simp)); replace BK578 := zM (KeepBut.blk hk (g' := gb578) (o := .cells #[.int .i64 t572, .int .i64 t575, .int .i64 t594, .int .i64 t597, .int .i64 (-1)] 31 (0, 0)) zPq NB578_0.1 (by simp)); replace HK := zM (KeepBut.trans zB2 hk (.inl rfl)); replace HB := zM hb; replace HI0 := zM hi; clear hb hk hi; have hcz56 := zc_5 (w := w55) BK578.1; have hnb57 := NB571_0.1; have hnc57 := NB0_571.1; have hcz58 := zc_5 (w := w55) BK571.1))
 refine bodyPost_ret (results_cell_row rfl _ _ gb571 31 #[.int .i64 t572, .int .i64 t575, .int .i64 t594, .int .i64 t597, .int .i64 t600] (0, 0) _ rfl zPq Tryd.underlying31 rfl (by kernel_rfl)) rfl ?_
 exact ⟨zE, zB66, zB1, zB2⟩

/-! ### spec_l1Pick: function 36 -/
def spec_l1Pick.f (s0_0 : List Int) (s0_1 : Int) (s0_2 : Int) (l1 : List ByteArray) : Option (ByteArray × Int × Int) := (spec_l1Below.f s0_0 s0_1 s0_2 (l1.length : Int)).bind fun bt603 => (if 0 ≤ bt603.1 then (if bt603.1 < (l1.length : Int) then (some (rdOf ByteArray.empty l1 bt603.1, bt603.2.1, bt603.2.2)) else (none)) else (none))
theorem spec_l1Pick.calls (g : Nat) (s0_0 : List Int) (s0_1 : Int) (s0_2 : Int) (A1 : Option Addr) (c1 : Nat) (l1 : List ByteArray) (r1 : ByteArray) (r2 : Int) (r3 : Int) (w0 w : World) (hI : IsS64 w0 w g s0_0 s0_1 s0_2) (hB : Below w0.heap.size w0 w) (hr1 : Kd.C Kd.string w A1 l1.length l1) (hc1 : l1.length ≤ c1) (hf1 : ∀ ad, A1 = some ad → 0 < l1.length → ad.block ≠ g) (h : spec_l1Pick.f s0_0 s0_1 s0_2 l1 = some (r1, r2, r3)) :
  Calls Tryd.prog 36 #[.pointer (some ⟨g, 0, none⟩), .slice A1 l1.length c1] w fun e w' => e = .returned (.string r1) ∧ IsS64 w0 w' g s0_0 r2 r3 ∧ Below w0.heap.size w0 w' ∧ KeepBut w w' g none := by
 have HR1 := zM hr1
 have HC1 := zM hc1
 clear hr1 hc1
 have HI0 := zM hI
 have HK := zM (KeepBut.refl w g none)
 have HL := zM hB.size
 clear hI
 have HW0 := zM hB.size
 have HB := zM hB
 clear hB
 unfold spec_l1Pick.f at h
 have H := h
 clear h
 replace H := zO H
 obtain ⟨⟨t603, t604, t605⟩, A3, H⟩ := H
 try dsimp only at H
 replace H := zIt H
 obtain ⟨c4b0, H⟩ := H
 replace H := zIt H
 obtain ⟨c5b0, H⟩ := H
 simp only [Option.some.injEq, Prod.mk.injEq] at H
 obtain ⟨rfl, rfl, rfl⟩ := H
 go_enter Tryd.func36, Tryd.ntmps36
 go_wp2_with (first | ((with_reducible refine gate_callee (f := 18) rfl ?_); refine goesL_ (some 9) rfl rfl Tryd.func18 (by kernel_rfl) rfl #[.pointer (some ⟨g, 0, none⟩), .int .i64 (l1.length : Int)] rfl zT ?_; (with_reducible refine (spec_l1Below.calls g s0_0 s0_1 s0_2 (l1.length : Int) t603 t604 t605 w0 _ ?side1 ?side2 A3.1).mono ?_); (case side1 => exact zB0); (case side2 => exact zB1); rintro e w6 ⟨rfl, hi, hb, hk⟩; refine ⟨_, rfl, ?_⟩; replace HK := zM (KeepBut.trans zB2 hk (.inl rfl)); replace HB := zM hb; replace HI0 := zM hi; clear hb hk hi; have p606 : 0 ≤ (t603 : Int) := zA; have q606 : t603 < (l1.length : Int) := zA; obtain ⟨ad606, e606, hx606_0⟩ := Kd.at_string HR1.1 t603 p606 q606; cases e606; replace hx606_0 := keep_cell HK.1 hx606_0 (by first | (rw [add_block]; exact hf1 _ rfl (by omega)) | exact hf1 _ rfl (by omega) | exact hf1 ad606 rfl (by omega)); replace p606 := eq_true p606; replace q606 := eq_true q606))
 go_ret
 exact ⟨zE, zB0, zB1, zB2⟩

end Go.Proofs.YtaakcbgpmabaaaaDoor.PFnStories
