-- made by wip/tools/myprint.py out of the seat's translation
import Derived.Test.YtaakcbgpmabaaaaDoorPFnStoriesx0
import Derived.Test.YtaakcbgpmabaaaaDoorPFnStoriesx10
namespace Go.Proofs.YtaakcbgpmabaaaaDoor.PFnStories
open Go.RowKit Go.Proofs.YtaakcbgpmabaaaaDoorW.PrintWords Go.Proofs.YtaakcbgpmabaaaaDoorW.PrintLast Go.Proofs.YtaakcbgpmabaaaaDoorW.PrintMore
attribute [local go_sem] max2_int min2_int max_two min_two max_three min_three max_four min_four   -- for this text's walks alone
set_option linter.unusedVariables false
set_option linter.unusedSimpArgs false
set_option maxHeartbeats 8000000
set_option maxRecDepth 100000

/-! ### spec_l28Num: function 27 -/
def spec_l28Num.l0 : Nat → ByteArray → Int → Int → Option (Int)
 | 0, _, _, _ => none
 | k + 1, x0, x3, x4 => if x4 < (x0.size : Int) then (if 0 ≤ x4 then (if (bt x0 x4) < 48 then (some (-2)) else (if (bt x0 x4) > 57 then (some (-2)) else (if x4 > 4 then (some (-2)) else (spec_l28Num.l0 k x0 (wrap64 ((wrap64 ((wrap64 (10 * x3)) + (wrap64 (bt x0 x4)))) - 48)) (wrap64 (x4 + 1)))))) else (none)) else (if x0.toList = ([] : List UInt8) then (some (-2)) else (if x3 > 65535 then (some (-2)) else ((spec_l16Digits.f k x3).bind fun t704 => (if x0.toList = t704.toList then (some x3) else (some (-2))))))
def spec_l28Num.f (k : Nat) (a0 : ByteArray) : Option (Int) := if a0.toList = ([45] : List UInt8) then (some (-1)) else (spec_l28Num.l0 k a0 0 0)
theorem spec_l28Num.mono_l : ∀ k, (∀ y0 y1 y2, LeO (spec_l28Num.l0 k y0 y1 y2) (spec_l28Num.l0 (k + 1) y0 y1 y2))
 | 0 => fun _ _ _ r h => by simp [spec_l28Num.l0] at h
 | k + 1 => by
  have ih0 := spec_l28Num.mono_l k
  ·intros
   unfold spec_l28Num.l0
   have mo0 := @spec_l16Digits.mono
   exact zL
theorem spec_l28Num.mono : ∀ a0 k, LeO (spec_l28Num.f k a0) (spec_l28Num.f (k + 1) a0) := by
 intro a0 k
 have ih0 := spec_l28Num.mono_l k
 unfold spec_l28Num.f
 have mo0 := @spec_l16Digits.mono
 exact zL
theorem spec_l28Num.calls (k : Nat) (a0 : ByteArray) (r : Int) (w : World) (h : spec_l28Num.f k a0 = some r) :
  Calls Tryd.prog 27 #[.string a0] w fun e w' => e = .returned (.int .i64 r) ∧ Below w.heap.size w w' := by
 have HB := zM (Below.refl w.heap.size w)
 unfold spec_l28Num.f at h
 have H := h
 clear h
 by_cases c2 : a0.toList = ([45] : List UInt8)
 ·rw [if_pos c2] at H
  have c2b0 : (a0.toList == ([45] : List UInt8)) = true := beq_iff_eq.mpr c2
  have c2b1 : (a0.toList != ([45] : List UInt8)) = false := bne_eq_false_iff_eq.mpr c2
  clear c2
  obtain rfl := Option.some.inj H
  go_enter Tryd.func27, Tryd.ntmps27
  go_wp2
  go_ret
  exact ⟨zE, zB3⟩
 rw [if_neg c2] at H
 have c2b0 : (a0.toList == ([45] : List UInt8)) = false := beq_eq_false_iff_ne.mpr c2
 have c2b1 : (a0.toList != ([45] : List UInt8)) = true := bne_iff_ne.mpr c2
 have H' := zM H
 clear H
 go_enter Tryd.func27, Tryd.ntmps27
 go_wp2
 go_loopg [3, 4] k (fun kq v3 v4 w' => ∃ (x3_1 : Int) (x4_1 : Int), v3 = .int .i64 x3_1 ∧ v4 = .int .i64 x4_1 ∧ Aside0 (spec_l28Num.l0 kq a0 x3_1 x4_1 = some r) ∧ Aside0 (kq ≤ k) ∧ Aside0 (Below w.heap.size w w'))
 case atStart => exact ⟨(0), (0), zJJ, zJJ, H', ⟨Nat.le_refl _⟩, ⟨zB3⟩⟩
 case round =>
  clear H'
  obtain ⟨x3_1, x4_1, rfl, rfl, HA, HK1, HB⟩ := hrel
  cases gk with
  | zero => exact absurd HA.1 (by simp [spec_l28Num.l0])
  | succ k1 =>
   have H := HA.1
   clear HA
   simp only [spec_l28Num.l0] at H
   by_cases c3 : x4_1 < (a0.size : Int)
   rotate_left
   ·rw [if_neg c3] at H
    have c3b0 := decide_eq_false c3
    clear c3
    by_cases c11 : a0.toList = ([] : List UInt8)
    ·rw [if_pos c11] at H
     have c11b0 : (a0.toList == ([] : List UInt8)) = true := beq_iff_eq.mpr c11
     have c11b1 : (a0.toList != ([] : List UInt8)) = false := bne_eq_false_iff_eq.mpr c11
     clear c11
     obtain rfl := Option.some.inj H
     go_wp2
     go_ret
     exact ⟨zE, zB3⟩
    rw [if_neg c11] at H
    have c11b0 : (a0.toList == ([] : List UInt8)) = false := beq_eq_false_iff_ne.mpr c11
    have c11b1 : (a0.toList != ([] : List UInt8)) = true := bne_iff_ne.mpr c11
    by_cases c12 : x3_1 > 65535
    ·rw [if_pos c12] at H
     have c12b0 := decide_eq_true c12
     clear c12
     obtain rfl := Option.some.inj H
     go_wp2
     go_ret
     exact ⟨zE, zB3⟩
    rw [if_neg c12] at H
    have c12b0 := decide_eq_false c12
    clear c12
    replace H := zO H
    obtain ⟨t704, A13, H⟩ := H
    by_cases c14 : a0.toList = t704.toList
    rotate_left
    ·rw [if_neg c14] at H
     have c14b0 : (a0.toList == t704.toList) = false := beq_eq_false_iff_ne.mpr c14
     have c14b1 : (a0.toList != t704.toList) = true := bne_iff_ne.mpr c14
     obtain rfl := Option.some.inj H
     go_wp2_with (first | (go_at_call 41; (with_reducible refine (spec_l16Digits.calls k1 x3_1 t704 _ A13.1).mono ?_); rintro e w16 ⟨rfl, hb⟩; have n0_ := zM (below_step zB3 hb); clear HB; have HB := n0_; clear n0_; clear hb))
     go_ret
     exact ⟨zE, zB3⟩
    rw [if_pos c14] at H
    have c14b0 : (a0.toList == t704.toList) = true := beq_iff_eq.mpr c14
    have c14b1 : (a0.toList != t704.toList) = false := bne_eq_false_iff_eq.mpr c14
    clear c14
    obtain rfl := Option.some.inj H
    go_wp2_with (first | (go_at_call 41; (with_reducible refine (spec_l16Digits.calls k1 x3_1 t704 _ A13.1).mono ?_); rintro e w15 ⟨rfl, hb⟩; have n0_ := zM (below_step zB3 hb); clear HB; have HB := n0_; clear n0_; clear hb))
    go_ret
    exact ⟨zE, zB3⟩
   rw [if_pos c3] at H
   have c3b0 := decide_eq_true c3
   clear c3
   replace H := zIt H
   obtain ⟨c4b0, H⟩ := H
   by_cases c6 : (bt a0 x4_1) < 48
   ·rw [if_pos c6] at H
    have c6b0 := decide_eq_true c6
    clear c6
    obtain rfl := Option.some.inj H
    have p5 : 0 ≤ (x4_1 : Int) := zA
    have q5 : x4_1 < (a0.size : Int) := zA
    have hx5 := bt_at a0 x4_1
    replace p5 := eq_true p5
    replace q5 := eq_true q5
    go_wp2
    go_ret
    exact ⟨zE, zB3⟩
   rw [if_neg c6] at H
   have c6b0 := decide_eq_false c6
   clear c6
   by_cases c8 : (bt a0 x4_1) > 57
   ·rw [if_pos c8] at H
    have c8b0 := decide_eq_true c8
    clear c8
    obtain rfl := Option.some.inj H
    have p5 : 0 ≤ (x4_1 : Int) := zA
    have q5 : x4_1 < (a0.size : Int) := zA
    have hx5 := bt_at a0 x4_1
    replace p5 := eq_true p5
    replace q5 := eq_true q5
    have p7 : 0 ≤ (x4_1 : Int) := zA
    have q7 : x4_1 < (a0.size : Int) := zA
    have hx7 := bt_at a0 x4_1
    replace p7 := eq_true p7
    replace q7 := eq_true q7
    go_wp2
    go_ret
    exact ⟨zE, zB3⟩
   rw [if_neg c8] at H
   have c8b0 := decide_eq_false c8
   clear c8
   by_cases c9 : x4_1 > 4
   ·rw [if_pos c9] at H
    have c9b0 := decide_eq_true c9
    clear c9
    obtain rfl := Option.some.inj H
    have p5 : 0 ≤ (x4_1 : Int) := zA
    have q5 : x4_1 < (a0.size : Int) := zA
    have hx5 := bt_at a0 x4_1
    replace p5 := eq_true p5
    replace q5 := eq_true q5
    have p7 : 0 ≤ (x4_1 : Int) := zA
    have q7 : x4_1 < (a0.size : Int) := zA
    have hx7 := bt_at a0 x4_1
    replace p7 := eq_true p7
    replace q7 := eq_true q7
    go_wp2
    go_ret
    exact ⟨zE, zB3⟩
   rw [if_neg c9] at H
   have c9b0 := decide_eq_false c9
   clear c9
   have H' := zM H
   clear H
   have p5 : 0 ≤ (x4_1 : Int) := zA
   have q5 : x4_1 < (a0.size : Int) := zA
   have hx5 := bt_at a0 x4_1
   replace p5 := eq_true p5
   replace q5 := eq_true q5
   have p7 : 0 ≤ (x4_1 : Int) := zA
   have q7 : x4_1 < (a0.size : Int) := zA
   have hx7 := bt_at a0 x4_1
   replace p7 := eq_true p7
   replace q7 := eq_true q7
   have p10 : 0 ≤ (x4_1 : Int) := zA
   have q10 : x4_1 < (a0.size : Int) := zA
   have hx10 := bt_at a0 x4_1
   replace p10 := eq_true p10
   replace q10 := eq_true q10
   go_wp2
   go_roundg k1
   case measure => have := HK1.1; omega
   case rel => exact ⟨(wrap64 ((wrap64 ((wrap64 (10 * x3_1)) + (wrap64 (bt a0 x4_1)))) - 48)), (wrap64 (x4_1 + 1)), zJJ, zJJ, H', ⟨by have := HK1.1; omega⟩, ⟨zB3⟩⟩

end Go.Proofs.YtaakcbgpmabaaaaDoor.PFnStories
