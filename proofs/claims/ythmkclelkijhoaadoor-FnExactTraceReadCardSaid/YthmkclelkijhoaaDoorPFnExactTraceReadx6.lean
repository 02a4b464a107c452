-- made by wip/tools/myprint.py out of the seat's translation
import Derived.Test.YthmkclelkijhoaaDoorPFnExactTraceReadx0
import Derived.Test.YthmkclelkijhoaaDoorPFnExactTraceReadx3
import Derived.Test.YthmkclelkijhoaaDoorPFnExactTraceReadx5
namespace Go.Proofs.YthmkclelkijhoaaDoor.PFnExactTraceRead
open Go.RowKit Go.Proofs.YthmkclelkijhoaaDoorW.PrintWords Go.Proofs.YthmkclelkijhoaaDoorW.PrintLast Go.Proofs.YthmkclelkijhoaaDoorW.PrintMore
attribute [local go_sem] max2_int min2_int max_two min_two max_three min_three max_four min_four   -- for this text's walks alone
set_option linter.unusedVariables false
set_option linter.unusedSimpArgs false
theorem zR6 {p q : Prop} (x : q) (h : q → p := by intro h; (with_reducible repeat (first | apply Kd.R_alloc | apply Kd.R_drewN | apply Kd.R_drew)); exact h) : p := h x
theorem zA6 {p : Prop} [Decidable p] (h : decide p = true := by first | (with_reducible assumption) | assumption) : p := of_decide_eq_true h
theorem zT6 {p : Prop} (h : p := by (try simp only [List.map_toArray, List.map_cons, List.map_nil]); first | done | rfl | (simp only [List.length_drop, List.length_take]; rfl)) : p := h
theorem zC6 {p q : Prop} (x : q) (h : q → p := by intro h; repeat (first | exact h | (with_reducible refine Kd.C_alloc ?_ _) | (with_reducible refine Kd.C_drewN ?_ _) | (with_reducible refine Kd.C_drew ?_))) : p := h x
theorem zE6 {p : Prop} (h : p := by first | rfl | (simp [errW_none, errW_some] <;> rfl) | (simp [*, errW_none, errW_some] <;> rfl)) : p := h
theorem zB6_0 {p : Prop} (h : p := by repeat (first | (with_reducible first | exact HB.out | apply below_alloc | apply pw_below_drewN | apply below_drew1) | exact HB.out)) : p := h

/-! ### laws_heldEventS: function 12 -/
def laws_heldEventS.l0 : Nat → List (S23) → Int → Int → Option (Int)
 | 0, _, _, _ => none
 | k + 1, x0, x1, x5 => if x5 < (x0.length : Int) then (if 0 ≤ x5 then (if ((rd_T23 x0 x5).f0) = x1 then (if ((rd_T23 x0 x5).f1) = (wrap64 (x1 + 1)) then (if ((rd_T23 x0 x5).f2) = (wrap64 ((wrap64 (x1 + 1)) + 1)) then (if ((rd_T23 x0 x5).f3) = (wrap64 ((wrap64 ((wrap64 (x1 + 1)) + 1)) + 1)) then (if ((rd_T23 x0 x5).f4) = (wrap64 ((wrap64 ((wrap64 ((wrap64 (x1 + 1)) + 1)) + 1)) + 1)) then (laws_heldEventS.l0 k x0 (wrap64 ((wrap64 ((wrap64 ((wrap64 ((wrap64 (x1 + 1)) + 1)) + 1)) + 1)) + 1)) (wrap64 (x5 + 1))) else (some (-1))) else (some (-1))) else (some (-1))) else (some (-1))) else (some (-1))) else (none)) else (some x1)
def laws_heldEventS.f (k : Nat) (l0 : List (S23)) (a1 : Int) : Option (Int) := laws_heldEventS.l0 k l0 a1 0
theorem laws_heldEventS.mono_l : ∀ k, (∀ y0 y1 y2, LeO (laws_heldEventS.l0 k y0 y1 y2) (laws_heldEventS.l0 (k + 1) y0 y1 y2))
 | 0 => fun _ _ _ r h => by simp [laws_heldEventS.l0] at h
 | k + 1 => by
  have ih0 := laws_heldEventS.mono_l k
  ·intro y0 y1 y2
   unfold laws_heldEventS.l0
   repeat' first
   | (with_reducible exact ih0 _ _ _)
   | (with_reducible exact LeO.refl _)
   | (with_reducible exact LeO.none _)
   | (with_reducible refine LeO.ite ?_ ?_)
   | (with_reducible refine LeO.bind ?_ (fun _ => ?_))
   | exact ih0 _ _ _
   | exact LeO.none _
   | refine LeO.ite ?_ ?_
   | refine LeO.bind ?_ (fun _ => ?_)
theorem laws_heldEventS.mono : ∀ a0 a1 k, LeO (laws_heldEventS.f k a0 a1) (laws_heldEventS.f (k + 1) a0 a1) := by
 intro a0 a1 k
 have ih0 := laws_heldEventS.mono_l k
 unfold laws_heldEventS.f
 repeat' first
   | (with_reducible exact ih0 _ _ _)
   | (with_reducible exact LeO.refl _)
   | (with_reducible exact LeO.none _)
   | (with_reducible refine LeO.ite ?_ ?_)
   | (with_reducible refine LeO.bind ?_ (fun _ => ?_))
   | exact ih0 _ _ _
   | exact LeO.none _
   | refine LeO.ite ?_ ?_
   | refine LeO.bind ?_ (fun _ => ?_)
set_option maxHeartbeats 8000000 in
set_option maxRecDepth 100000 in
theorem laws_heldEventS.calls (k : Nat) (A0 : Option Addr) (c0 : Nat) (l0 : List (S23)) (a1 : Int) (r : Int) (w : World) (hr0 : Kd.C k23 w A0 l0.length l0) (hc0 : l0.length ≤ c0) (h : laws_heldEventS.f k l0 a1 = some r) :
  Calls Tryd.prog 12 #[.slice A0 l0.length c0, .int .i64 a1] w fun e w' => e = .returned (.int .i64 r) ∧ Drawn0 w w' := by
 have HR0 := Aside0.mk hr0
 have HC0 := Aside0.mk hc0
 clear hr0 hc0
 have H : (laws_heldEventS.l0 k l0 a1 0) = some r := h
 clear h
 have H' := Aside0.mk H
 clear H
 go_enter Tryd.func12, Tryd.ntmps12
 go_wp2
 go_loopg [1, 5] k (fun kq v1 v5 w' => ∃ (x1_1 : Int) (x5_1 : Int), v1 = .int .i64 x1_1 ∧ v5 = .int .i64 x5_1 ∧ Aside0 (laws_heldEventS.l0 kq l0 x1_1 x5_1 = some r) ∧ Aside0 (kq ≤ k) ∧ Drawn0 w w')
 case atStart => exact ⟨(a1), (0), (by first | rfl | (simp; done) | (simp [*]; done)), (by first | rfl | (simp; done) | (simp [*]; done)), H', ⟨Nat.le_refl _⟩, by repeat (first | exact Drawn0.refl _ | apply Drawn0.step)⟩
 case round =>
  clear H'
  try clear c1
  try clear p2
  obtain ⟨x1_1, x5_1, rfl, rfl, HA, HK1, ⟨m1, rfl⟩⟩ := hrel
  cases gk with
  | zero => exact absurd HA.out (by simp [laws_heldEventS.l0])
  | succ k1 =>
   have H := HA.out
   clear HA
   simp only [laws_heldEventS.l0] at H
   by_cases c3 : x5_1 < (l0.length : Int)
   rotate_left
   ·rw [if_neg c3] at H
    have c3b0 : decide (x5_1 < (l0.length : Int)) = false := decide_eq_false c3
    clear c3
    obtain rfl := Option.some.inj H
    go_wp2
    go_ret
    exact ⟨by first | rfl | (simp; done) | (simp [*]; done), by repeat (first | exact Drawn0.refl _ | apply Drawn0.step)⟩
   rw [if_pos c3] at H
   have c3b0 : decide (x5_1 < (l0.length : Int)) = true := decide_eq_true c3
   clear c3
   by_cases c4 : 0 ≤ x5_1
   rotate_left
   ·rw [if_neg c4] at H
    exact absurd H (by simp)
   rw [if_pos c4] at H
   have c4b0 : decide (0 ≤ x5_1) = true := decide_eq_true c4
   clear c4
   by_cases c5 : ((rd_T23 l0 x5_1).f0) = x1_1
   rotate_left
   ·rw [if_neg c5] at H
    have c5b0 : (((rd_T23 l0 x5_1).f0) == x1_1) = false := beq_eq_false_iff_ne.mpr c5
    have c5b1 : (((rd_T23 l0 x5_1).f0) != x1_1) = true := bne_iff_ne.mpr c5
    obtain rfl := Option.some.inj H
    have p218 : 0 ≤ (x5_1 : Int) := zA6
    have q218 : x5_1 < (l0.length : Int) := zA6
    obtain ⟨ad218, e218, hx218_0, hx218_1, hx218_2, hx218_3, hx218_4⟩ := at_T23 HR0.out x5_1 p218 q218
    cases e218
    replace p218 := eq_true p218
    replace q218 := eq_true q218
    go_wp2
    go_ret
    exact ⟨by first | rfl | (simp; done) | (simp [*]; done), by repeat (first | exact Drawn0.refl _ | apply Drawn0.step)⟩
   rw [if_pos c5] at H
   have c5b0 : (((rd_T23 l0 x5_1).f0) == x1_1) = true := beq_iff_eq.mpr c5
   have c5b1 : (((rd_T23 l0 x5_1).f0) != x1_1) = false := bne_eq_false_iff_eq.mpr c5
   clear c5
   by_cases c6 : ((rd_T23 l0 x5_1).f1) = (wrap64 (x1_1 + 1))
   rotate_left
   ·rw [if_neg c6] at H
    have c6b0 : (((rd_T23 l0 x5_1).f1) == (wrap64 (x1_1 + 1))) = false := beq_eq_false_iff_ne.mpr c6
    have c6b1 : (((rd_T23 l0 x5_1).f1) != (wrap64 (x1_1 + 1))) = true := bne_iff_ne.mpr c6
    obtain rfl := Option.some.inj H
    have p218 : 0 ≤ (x5_1 : Int) := zA6
    have q218 : x5_1 < (l0.length : Int) := zA6
    obtain ⟨ad218, e218, hx218_0, hx218_1, hx218_2, hx218_3, hx218_4⟩ := at_T23 HR0.out x5_1 p218 q218
    cases e218
    replace p218 := eq_true p218
    replace q218 := eq_true q218
    have p219 : 0 ≤ (x5_1 : Int) := zA6
    have q219 : x5_1 < (l0.length : Int) := zA6
    obtain ⟨ad219, e219, hx219_0, hx219_1, hx219_2, hx219_3, hx219_4⟩ := at_T23 HR0.out x5_1 p219 q219
    obtain rfl : ad218 = ad219 := (by injection e219)
    replace p219 := eq_true p219
    replace q219 := eq_true q219
    go_wp2
    go_ret
    exact ⟨by first | rfl | (simp; done) | (simp [*]; done), by repeat (first | exact Drawn0.refl _ | apply Drawn0.step)⟩
   rw [if_pos c6] at H
   have c6b0 : (((rd_T23 l0 x5_1).f1) == (wrap64 (x1_1 + 1))) = true := beq_iff_eq.mpr c6
   have c6b1 : (((rd_T23 l0 x5_1).f1) != (wrap64 (x1_1 + 1))) = false := bne_eq_false_iff_eq.mpr c6
   clear c6
   by_cases c7 : ((rd_T23 l0 x5_1).f2) = (wrap64 ((wrap64 (x1_1 + 1)) + 1))
   rotate_left
   ·rw [if_neg c7] at H
    have c7b0 : (((rd_T23 l0 x5_1).f2) == (wrap64 ((wrap64 (x1_1 + 1)) + 1))) = false := beq_eq_false_iff_ne.mpr c7
    have c7b1 : (((rd_T23 l0 x5_1).f2) != (wrap64 ((wrap64 (x1_1 + 1)) + 1))) = true := bne_iff_ne.mpr c7
    obtain rfl := Option.some.inj H
    have p218 : 0 ≤ (x5_1 : Int) := zA6
    have q218 : x5_1 < (l0.length : Int) := zA6
    obtain ⟨ad218, e218, hx218_0, hx218_1, hx218_2, hx218_3, hx218_4⟩ := at_T23 HR0.out x5_1 p218 q218
    cases e218
    replace p218 := eq_true p218
    replace q218 := eq_true q218
    have p219 : 0 ≤ (x5_1 : Int) := zA6
    have q219 : x5_1 < (l0.length : Int) := zA6
    obtain ⟨ad219, e219, hx219_0, hx219_1, hx219_2, hx219_3, hx219_4⟩ := at_T23 HR0.out x5_1 p219 q219
    obtain rfl : ad218 = ad219 := (by injection e219)
    replace p219 := eq_true p219
    replace q219 := eq_true q219
    have p220 : 0 ≤ (x5_1 : Int) := zA6
    have q220 : x5_1 < (l0.length : Int) := zA6
    obtain ⟨ad220, e220, hx220_0, hx220_1, hx220_2, hx220_3, hx220_4⟩ := at_T23 HR0.out x5_1 p220 q220
    obtain rfl : ad218 = ad220 := (by injection e220)
    replace p220 := eq_true p220
    replace q220 := eq_true q220
    go_wp2
    go_ret
    exact ⟨by first | rfl | (simp; done) | (simp [*]; done), by repeat (first | exact Drawn0.refl _ | apply Drawn0.step)⟩
   rw [if_pos c7] at H
   have c7b0 : (((rd_T23 l0 x5_1).f2) == (wrap64 ((wrap64 (x1_1 + 1)) + 1))) = true := beq_iff_eq.mpr c7
   have c7b1 : (((rd_T23 l0 x5_1).f2) != (wrap64 ((wrap64 (x1_1 + 1)) + 1))) = false := bne_eq_false_iff_eq.mpr c7
   clear c7
   by_cases c8 : ((rd_T23 l0 x5_1).f3) = (wrap64 ((wrap64 ((wrap64 (x1_1 + 1)) + 1)) + 1))
   rotate_left
   ·rw [if_neg c8] at H
    have c8b0 : (((rd_T23 l0 x5_1).f3) == (wrap64 ((wrap64 ((wrap64 (x1_1 + 1)) + 1)) + 1))) = false := beq_eq_false_iff_ne.mpr c8
    have c8b1 : (((rd_T23 l0 x5_1).f3) != (wrap64 ((wrap64 ((wrap64 (x1_1 + 1)) + 1)) + 1))) = true := bne_iff_ne.mpr c8
    obtain rfl := Option.some.inj H
    have p218 : 0 ≤ (x5_1 : Int) := zA6
    have q218 : x5_1 < (l0.length : Int) := zA6
    obtain ⟨ad218, e218, hx218_0, hx218_1, hx218_2, hx218_3, hx218_4⟩ := at_T23 HR0.out x5_1 p218 q218
    cases e218
    replace p218 := eq_true p218
    replace q218 := eq_true q218
    have p219 : 0 ≤ (x5_1 : Int) := zA6
    have q219 : x5_1 < (l0.length : Int) := zA6
    obtain ⟨ad219, e219, hx219_0, hx219_1, hx219_2, hx219_3, hx219_4⟩ := at_T23 HR0.out x5_1 p219 q219
    obtain rfl : ad218 = ad219 := (by injection e219)
    replace p219 := eq_true p219
    replace q219 := eq_true q219
    have p220 : 0 ≤ (x5_1 : Int) := zA6
    have q220 : x5_1 < (l0.length : Int) := zA6
    obtain ⟨ad220, e220, hx220_0, hx220_1, hx220_2, hx220_3, hx220_4⟩ := at_T23 HR0.out x5_1 p220 q220
    obtain rfl : ad218 = ad220 := (by injection e220)
    replace p220 := eq_true p220
    replace q220 := eq_true q220
    have p221 : 0 ≤ (x5_1 : Int) := zA6
    have q221 : x5_1 < (l0.length : Int) := zA6
    obtain ⟨ad221, e221, hx221_0, hx221_1, hx221_2, hx221_3, hx221_4⟩ := at_T23 HR0.out x5_1 p221 q221
    obtain rfl : ad218 = ad221 := (by injection e221)
    replace p221 := eq_true p221
    replace q221 := eq_true q221
    go_wp2
    go_ret
    exact ⟨by first | rfl | (simp; done) | (simp [*]; done), by repeat (first | exact Drawn0.refl _ | apply Drawn0.step)⟩
   rw [if_pos c8] at H
   have c8b0 : (((rd_T23 l0 x5_1).f3) == (wrap64 ((wrap64 ((wrap64 (x1_1 + 1)) + 1)) + 1))) = true := beq_iff_eq.mpr c8
   have c8b1 : (((rd_T23 l0 x5_1).f3) != (wrap64 ((wrap64 ((wrap64 (x1_1 + 1)) + 1)) + 1))) = false := bne_eq_false_iff_eq.mpr c8
   clear c8
   by_cases c9 : ((rd_T23 l0 x5_1).f4) = (wrap64 ((wrap64 ((wrap64 ((wrap64 (x1_1 + 1)) + 1)) + 1)) + 1))
   rotate_left
   ·rw [if_neg c9] at H
    have c9b0 : (((rd_T23 l0 x5_1).f4) == (wrap64 ((wrap64 ((wrap64 ((wrap64 (x1_1 + 1)) + 1)) + 1)) + 1))) = false := beq_eq_false_iff_ne.mpr c9
    have c9b1 : (((rd_T23 l0 x5_1).f4) != (wrap64 ((wrap64 ((wrap64 ((wrap64 (x1_1 + 1)) + 1)) + 1)) + 1))) = true := bne_iff_ne.mpr c9
    obtain rfl := Option.some.inj H
    have p218 : 0 ≤ (x5_1 : Int) := zA6
    have q218 : x5_1 < (l0.length : Int) := zA6
    obtain ⟨ad218, e218, hx218_0, hx218_1, hx218_2, hx218_3, hx218_4⟩ := at_T23 HR0.out x5_1 p218 q218
    cases e218
    replace p218 := eq_true p218
    replace q218 := eq_true q218
    have p219 : 0 ≤ (x5_1 : Int) := zA6
    have q219 : x5_1 < (l0.length : Int) := zA6
    obtain ⟨ad219, e219, hx219_0, hx219_1, hx219_2, hx219_3, hx219_4⟩ := at_T23 HR0.out x5_1 p219 q219
    obtain rfl : ad218 = ad219 := (by injection e219)
    replace p219 := eq_true p219
    replace q219 := eq_true q219
    have p220 : 0 ≤ (x5_1 : Int) := zA6
    have q220 : x5_1 < (l0.length : Int) := zA6
    obtain ⟨ad220, e220, hx220_0, hx220_1, hx220_2, hx220_3, hx220_4⟩ := at_T23 HR0.out x5_1 p220 q220
    obtain rfl : ad218 = ad220 := (by injection e220)
    replace p220 := eq_true p220
    replace q220 := eq_true q220
    have p221 : 0 ≤ (x5_1 : Int) := zA6
    have q221 : x5_1 < (l0.length : Int) := zA6
    obtain ⟨ad221, e221, hx221_0, hx221_1, hx221_2, hx221_3, hx221_4⟩ := at_T23 HR0.out x5_1 p221 q221
    obtain rfl : ad218 = ad221 := (by injection e221)
    replace p221 := eq_true p221
    replace q221 := eq_true q221
    have p222 : 0 ≤ (x5_1 : Int) := zA6
    have q222 : x5_1 < (l0.length : Int) := zA6
    obtain ⟨ad222, e222, hx222_0, hx222_1, hx222_2, hx222_3, hx222_4⟩ := at_T23 HR0.out x5_1 p222 q222
    obtain rfl : ad218 = ad222 := (by injection e222)
    replace p222 := eq_true p222
    replace q222 := eq_true q222
    go_wp2
    go_ret
    exact ⟨by first | rfl | (simp; done) | (simp [*]; done), by repeat (first | exact Drawn0.refl _ | apply Drawn0.step)⟩
   rw [if_pos c9] at H
   have c9b0 : (((rd_T23 l0 x5_1).f4) == (wrap64 ((wrap64 ((wrap64 ((wrap64 (x1_1 + 1)) + 1)) + 1)) + 1))) = true := beq_iff_eq.mpr c9
   have c9b1 : (((rd_T23 l0 x5_1).f4) != (wrap64 ((wrap64 ((wrap64 ((wrap64 (x1_1 + 1)) + 1)) + 1)) + 1))) = false := bne_eq_false_iff_eq.mpr c9
   clear c9
   have H' := Aside0.mk H
   clear H
   have p218 : 0 ≤ (x5_1 : Int) := zA6
   have q218 : x5_1 < (l0.length : Int) := zA6
   obtain ⟨ad218, e218, hx218_0, hx218_1, hx218_2, hx218_3, hx218_4⟩ := at_T23 HR0.out x5_1 p218 q218
   cases e218
   replace p218 := eq_true p218
   replace q218 := eq_true q218
   have p219 : 0 ≤ (x5_1 : Int) := zA6
   have q219 : x5_1 < (l0.length : Int) := zA6
   obtain ⟨ad219, e219, hx219_0, hx219_1, hx219_2, hx219_3, hx219_4⟩ := at_T23 HR0.out x5_1 p219 q219
   obtain rfl : ad218 = ad219 := (by injection e219)
   replace p219 := eq_true p219
   replace q219 := eq_true q219
   have p220 : 0 ≤ (x5_1 : Int) := zA6
   have q220 : x5_1 < (l0.length : Int) := zA6
   obtain ⟨ad220, e220, hx220_0, hx220_1, hx220_2, hx220_3, hx220_4⟩ := at_T23 HR0.out x5_1 p220 q220
   obtain rfl : ad218 = ad220 := (by injection e220)
   replace p220 := eq_true p220
   replace q220 := eq_true q220
   have p221 : 0 ≤ (x5_1 : Int) := zA6
   have q221 : x5_1 < (l0.length : Int) := zA6
   obtain ⟨ad221, e221, hx221_0, hx221_1, hx221_2, hx221_3, hx221_4⟩ := at_T23 HR0.out x5_1 p221 q221
   obtain rfl : ad218 = ad221 := (by injection e221)
   replace p221 := eq_true p221
   replace q221 := eq_true q221
   have p222 : 0 ≤ (x5_1 : Int) := zA6
   have q222 : x5_1 < (l0.length : Int) := zA6
   obtain ⟨ad222, e222, hx222_0, hx222_1, hx222_2, hx222_3, hx222_4⟩ := at_T23 HR0.out x5_1 p222 q222
   obtain rfl : ad218 = ad222 := (by injection e222)
   replace p222 := eq_true p222
   replace q222 := eq_true q222
   go_wp2
   go_roundg k1
   case measure => have := HK1.out; omega
   case rel => exact ⟨(wrap64 ((wrap64 ((wrap64 ((wrap64 ((wrap64 (x1_1 + 1)) + 1)) + 1)) + 1)) + 1)), (wrap64 (x5_1 + 1)), (by first | rfl | (simp; done) | (simp [*]; done)), (by first | rfl | (simp; done) | (simp [*]; done)), H', ⟨by have := HK1.out; omega⟩, by repeat (first | exact Drawn0.refl _ | apply Drawn0.step)⟩

/-! ### laws_FnExactTraceRead: function 4 -/
mutual
def laws_FnExactTraceRead.j0 : Nat → ByteArray → List (S23) → Bool → List (S23) → Bool → Option (Bool)
 | 0, _, _, _, _, _ => none
 | k + 1, x0, x3, x4, x5, x32 => if x32 = true then (some false) else ((laws_markEventS.f k x5 1).bind fun bt232 => ((laws_heldEventS.f k bt232.2 1).bind fun t234 => (if t234 < 0 then (some false) else (if t234 = bt232.1 then ((impl_TraceRead.f k x0).bind fun bt235 => ((laws_eqEventS.f k bt235.1 x3).bind fun t239 => (if t239 = true then (laws_FnExactTraceRead.j1 k bt232.2 bt232.1 (bt235.2 != x4)) else (laws_FnExactTraceRead.j1 k bt232.2 bt232.1 true)))) else (some false)))))
def laws_FnExactTraceRead.j1 : Nat → List (S23) → Int → Bool → Option (Bool)
 | 0, _, _, _ => none
 | k + 1, x5, x7, x57 => if x57 = true then (some false) else ((laws_heldEventS.f k x5 1).bind fun t240 => (if t240 < 0 then (some false) else (if t240 = x7 then (some true) else (some false))))
end
def laws_FnExactTraceRead.f (k : Nat) (a0 : ByteArray) : Option (Bool) := if (a0.size : Int) > 1048576 then (some true) else ((spec_TraceRead.f k a0).bind fun bt223 => ((impl_TraceRead.f k a0).bind fun bt227 => ((laws_eqEventS.f k bt227.1 bt223.1).bind fun t231 => (if t231 = true then (laws_FnExactTraceRead.j0 k a0 bt223.1 bt223.2 bt227.1 (bt227.2 != bt223.2)) else (laws_FnExactTraceRead.j0 k a0 bt223.1 bt223.2 bt227.1 true)))))
theorem laws_FnExactTraceRead.mono_l : ∀ k, (∀ y0 y1 y2 y3 y4, LeO (laws_FnExactTraceRead.j0 k y0 y1 y2 y3 y4) (laws_FnExactTraceRead.j0 (k + 1) y0 y1 y2 y3 y4)) ∧ (∀ y0 y1 y2, LeO (laws_FnExactTraceRead.j1 k y0 y1 y2) (laws_FnExactTraceRead.j1 (k + 1) y0 y1 y2))
 | 0 => ⟨fun _ _ _ _ _ r h => by simp [laws_FnExactTraceRead.j0] at h, fun _ _ _ r h => by simp [laws_FnExactTraceRead.j1] at h⟩
 | k + 1 => by
  obtain ⟨ih0, ih1⟩ := laws_FnExactTraceRead.mono_l k
  refine ⟨?_, ?_⟩
  ·intro y0 y1 y2 y3 y4
   unfold laws_FnExactTraceRead.j0
   repeat' first
   | (with_reducible exact ih0 _ _ _ _ _)
   | (with_reducible exact ih1 _ _ _)
   | (with_reducible exact impl_TraceRead.mono _ _)
   | (with_reducible exact laws_eqEventS.mono _ _ _)
   | (with_reducible exact laws_heldEventS.mono _ _ _)
   | (with_reducible exact laws_markEventS.mono _ _ _)
   | (with_reducible exact spec_TraceRead.mono _ _)
   | (with_reducible exact LeO.refl _)
   | (with_reducible exact LeO.none _)
   | (with_reducible refine LeO.ite ?_ ?_)
   | (with_reducible refine LeO.bind ?_ (fun _ => ?_))
   | exact ih0 _ _ _ _ _
   | exact ih1 _ _ _
   | exact impl_TraceRead.mono _ _
   | exact laws_eqEventS.mono _ _ _
   | exact laws_heldEventS.mono _ _ _
   | exact laws_markEventS.mono _ _ _
   | exact spec_TraceRead.mono _ _
   | exact LeO.none _
   | refine LeO.ite ?_ ?_
   | refine LeO.bind ?_ (fun _ => ?_)
  ·intro y0 y1 y2
   unfold laws_FnExactTraceRead.j1
   repeat' first
   | (with_reducible exact ih0 _ _ _ _ _)
   | (with_reducible exact ih1 _ _ _)
   | (with_reducible exact impl_TraceRead.mono _ _)
   | (with_reducible exact laws_eqEventS.mono _ _ _)
   | (with_reducible exact laws_heldEventS.mono _ _ _)
   | (with_reducible exact laws_markEventS.mono _ _ _)
   | (with_reducible exact spec_TraceRead.mono _ _)
   | (with_reducible exact LeO.refl _)
   | (with_reducible exact LeO.none _)
   | (with_reducible refine LeO.ite ?_ ?_)
   | (with_reducible refine LeO.bind ?_ (fun _ => ?_))
   | exact ih0 _ _ _ _ _
   | exact ih1 _ _ _
   | exact impl_TraceRead.mono _ _
   | exact laws_eqEventS.mono _ _ _
   | exact laws_heldEventS.mono _ _ _
   | exact laws_markEventS.mono _ _ _
   | exact spec_TraceRead.mono _ _
   | exact LeO.none _
   | refine LeO.ite ?_ ?_
   | refine LeO.bind ?_ (fun _ => ?_)
theorem laws_FnExactTraceRead.mono : ∀ a0 k, LeO (laws_FnExactTraceRead.f k a0) (laws_FnExactTraceRead.f (k + 1) a0) := by
 intro a0 k
 obtain ⟨ih0, ih1⟩ := laws_FnExactTraceRead.mono_l k
 unfold laws_FnExactTraceRead.f
 repeat' first
   | (with_reducible exact ih0 _ _ _ _ _)
   | (with_reducible exact ih1 _ _ _)
   | (with_reducible exact impl_TraceRead.mono _ _)
   | (with_reducible exact laws_eqEventS.mono _ _ _)
   | (with_reducible exact laws_heldEventS.mono _ _ _)
   | (with_reducible exact laws_markEventS.mono _ _ _)
   | (with_reducible exact spec_TraceRead.mono _ _)
   | (with_reducible exact LeO.refl _)
   | (with_reducible exact LeO.none _)
   | (with_reducible refine LeO.ite ?_ ?_)
   | (with_reducible refine LeO.bind ?_ (fun _ => ?_))
   | exact ih0 _ _ _ _ _
   | exact ih1 _ _ _
   | exact impl_TraceRead.mono _ _
   | exact laws_eqEventS.mono _ _ _
   | exact laws_heldEventS.mono _ _ _
   | exact laws_markEventS.mono _ _ _
   | exact spec_TraceRead.mono _ _
   | exact LeO.none _
   | refine LeO.ite ?_ ?_
   | refine LeO.bind ?_ (fun _ => ?_)
set_option maxHeartbeats 8000000 in
set_option maxRecDepth 100000 in
theorem laws_FnExactTraceRead.calls (k : Nat) (a0 : ByteArray) (r : Bool) (w : World) (h : laws_FnExactTraceRead.f k a0 = some r) :
  Calls Tryd.prog 4 #[.string a0] w fun e w' => e = .returned (.bool r) ∧ Below w.heap.size w w' := by
 have HB := Aside0.mk (Below.refl w.heap.size w)
 have H : (if (a0.size : Int) > 1048576 then (some true) else ((spec_TraceRead.f k a0).bind fun bt223 => ((impl_TraceRead.f k a0).bind fun bt227 => ((laws_eqEventS.f k bt227.1 bt223.1).bind fun t231 => (if t231 = true then (laws_FnExactTraceRead.j0 k a0 bt223.1 bt223.2 bt227.1 (bt227.2 != bt223.2)) else (laws_FnExactTraceRead.j0 k a0 bt223.1 bt223.2 bt227.1 true)))))) = some r := h
 clear h
 by_cases c2 : (a0.size : Int) > 1048576
 ·rw [if_pos c2] at H
  have c2b0 : decide (1048576 < (a0.size : Int)) = true := decide_eq_true c2
  have c2b1 : decide (1048576 < a0.size) = true := decide_eq_true (by omega)
  clear c2
  obtain rfl := Option.some.inj H
  go_enter Tryd.func4, Tryd.ntmps4
  go_wp2
  go_ret
  exact ⟨zE6, zB6_0⟩
 rw [if_neg c2] at H
 have c2b0 : decide (1048576 < (a0.size : Int)) = false := decide_eq_false c2
 have c2b1 : decide (1048576 < a0.size) = false := decide_eq_false (by omega)
 clear c2
 replace H := Option.bind_eq_some_iff.mp H
 obtain ⟨⟨t223, t224⟩, A30, H⟩ := H
 replace H : ((impl_TraceRead.f k a0).bind fun bt227 => ((laws_eqEventS.f k bt227.1 t223).bind fun t231 => (if t231 = true then (laws_FnExactTraceRead.j0 k a0 t223 t224 bt227.1 (bt227.2 != t224)) else (laws_FnExactTraceRead.j0 k a0 t223 t224 bt227.1 true)))) = some r := H
 have A3 := Aside0.mk A30
 clear A30
 replace H := Option.bind_eq_some_iff.mp H
 obtain ⟨⟨t227, t228⟩, A40, H⟩ := H
 replace H : ((laws_eqEventS.f k t227 t223).bind fun t231 => (if t231 = true then (laws_FnExactTraceRead.j0 k a0 t223 t224 t227 (t228 != t224)) else (laws_FnExactTraceRead.j0 k a0 t223 t224 t227 true))) = some r := H
 have A4 := Aside0.mk A40
 clear A40
 have HC5 := Aside0.mk H
 clear H
 go_enter Tryd.func4, Tryd.ntmps4
 go_upto_region 5 with (first | ((with_reducible refine gate_callee (f := 8) rfl ?_); refine goesL_ (some 16) rfl rfl Tryd.func8 (by kernel_rfl) rfl #[.string a0] rfl zT6 ?_; (with_reducible refine (spec_TraceRead.calls k a0 t223 t224 _ A3.out).mono ?_); rintro e w6 ⟨v225, rfl, ho0, hb⟩; refine ⟨_, rfl, ?_⟩; have n0_ := Aside0.mk (Kd.R_lower ho0 (below_size (zB6_0))); have n1_ := Aside0.mk (below_step (zB6_0) hb); clear HB; have HO226 := n0_; have HB := n1_; clear n0_ n1_; (try clear hb); (try clear hb2); (try clear hk); (try clear hi); (try clear ho0)) | ((with_reducible refine gate_callee (f := 9) rfl ?_); refine goesL_ (some 21) rfl rfl Tryd.func9 (by kernel_rfl) rfl #[.string a0] rfl zT6 ?_; (with_reducible refine (impl_TraceRead.calls k a0 t227 t228 _ A4.out).mono ?_); rintro e w7 ⟨v229, rfl, ho0, hb⟩; refine ⟨_, rfl, ?_⟩; have n0_ := Aside0.mk (Kd.R_elder' (zR6 HO226.out) (Kd.R_base ho0) hb); have n1_ := Aside0.mk (Kd.R_lower (Kd.R_new' ho0 (Kd.R_lt (zR6 HO226.out))) (below_size (zB6_0))); have n2_ := Aside0.mk (below_step (zB6_0) hb); clear HO226; clear HB; have HO226 := n0_; have HO230 := n1_; have HB := n2_; clear n0_ n1_ n2_; (try clear hb); (try clear hb2); (try clear hk); (try clear hi); (try clear ho0)))
 (try simp only [Act.put, List.setIfInBounds_toArray, List.set_cons_zero, List.set_cons_succ])
 go_cut [32] (fun v32 wc => ∃ (kq : Nat) (x32_4 : Bool), v32 = .bool x32_4 ∧ Aside0 (laws_FnExactTraceRead.j0 kq a0 t223 t224 t227 x32_4 = some r) ∧ Aside0 (kq ≤ k) ∧ Aside0 (Kd.R k23 23 wc w.heap.size (fun k_ => some k_ ≠ (v229 : Value).ownBlock) v225 t223) ∧ Aside0 (Kd.R k23 23 wc w.heap.size (fun k_ => some k_ ≠ (v225 : Value).ownBlock) v229 t227) ∧ Aside0 (Below w.heap.size w wc))
 case first =>
  have H := HC5.out
  clear HC5
  replace H := Option.bind_eq_some_iff.mp H
  obtain ⟨t231, A80, H⟩ := H
  replace H : (if t231 = true then (laws_FnExactTraceRead.j0 k a0 t223 t224 t227 (t228 != t224)) else (laws_FnExactTraceRead.j0 k a0 t223 t224 t227 true)) = some r := H
  have A8 := Aside0.mk A80
  clear A80
  by_cases c9 : t231 = true
  ·subst c9
   have H1 : (laws_FnExactTraceRead.j0 k a0 t223 t224 t227 (t228 != t224)) = some r := by rw [if_pos rfl] at H; exact H
   clear H
   have H := H1
   clear H1
   have H' := Aside0.mk H
   clear H
   obtain ⟨Ao10, co10, eo10⟩ := Kd.R_slice HO230.out
   subst eo10
   obtain ⟨Ao11, co11, eo11⟩ := Kd.R_slice HO226.out
   subst eo11
   go_wp2_with (first | ((with_reducible refine gate_callee (f := 10) rfl ?_); refine goesL_ (some 26) rfl rfl Tryd.func10 (by kernel_rfl) rfl #[.slice Ao10 t227.length co10, .slice Ao11 t223.length co11] rfl zT6 ?_; (with_reducible refine (laws_eqEventS.calls k _ _ t227 _ _ t223 true _ ?side1 ?side2 ?side3 ?side4 A8.out).mono ?_); (case side1 => exact zC6 (Kd.R_reads' HO230.out).2.2); (case side2 => exact (Kd.R_reads' HO230.out).2.1); (case side3 => exact zC6 (Kd.R_reads' HO226.out).2.2); (case side4 => exact (Kd.R_reads' HO226.out).2.1); rintro e w12 ⟨rfl, hb⟩; refine ⟨_, rfl, ?_⟩; have n0_ := Aside0.mk (Kd.R_below (zR6 HO226.out) hb); have n1_ := Aside0.mk (Kd.R_below (zR6 HO230.out) hb); have n2_ := Aside0.mk (below_step (zB6_0) hb); clear HO226; clear HO230; clear HB; have HO226 := n0_; have HO230 := n1_; have HB := n2_; clear n0_ n1_ n2_; (try clear hb); (try clear hb2); (try clear hk); (try clear hi)))
   go_meet
   case rel => exact ⟨_, ((t228 != t224)), (by first | rfl | (simp; done) | (simp [*]; done)), H', ⟨by first | omega | exact Nat.le_refl _⟩, ⟨by (with_reducible repeat (first | apply Kd.R_alloc | apply Kd.R_drewN | apply Kd.R_drew)); exact Kd.R_mono HO226.out (fun _ hk => hk.2)⟩, ⟨by (with_reducible repeat (first | apply Kd.R_alloc | apply Kd.R_drewN | apply Kd.R_drew)); exact Kd.R_mono HO230.out (fun _ hk => hk.2)⟩, ⟨zB6_0⟩⟩
  replace c9 := Bool.eq_false_iff.mpr c9
  subst c9
  have H1 : (laws_FnExactTraceRead.j0 k a0 t223 t224 t227 true) = some r := by rw [if_neg (show ¬ (false = true) by decide)] at H; exact H
  clear H
  have H := H1
  clear H1
  have H' := Aside0.mk H
  clear H
  obtain ⟨Ao13, co13, eo13⟩ := Kd.R_slice HO230.out
  subst eo13
  obtain ⟨Ao14, co14, eo14⟩ := Kd.R_slice HO226.out
  subst eo14
  go_wp2_with (first | ((with_reducible refine gate_callee (f := 10) rfl ?_); refine goesL_ (some 26) rfl rfl Tryd.func10 (by kernel_rfl) rfl #[.slice Ao13 t227.length co13, .slice Ao14 t223.length co14] rfl zT6 ?_; (with_reducible refine (laws_eqEventS.calls k _ _ t227 _ _ t223 false _ ?side1 ?side2 ?side3 ?side4 A8.out).mono ?_); (case side1 => exact zC6 (Kd.R_reads' HO230.out).2.2); (case side2 => exact (Kd.R_reads' HO230.out).2.1); (case side3 => exact zC6 (Kd.R_reads' HO226.out).2.2); (case side4 => exact (Kd.R_reads' HO226.out).2.1); rintro e w15 ⟨rfl, hb⟩; refine ⟨_, rfl, ?_⟩; have n0_ := Aside0.mk (Kd.R_below (zR6 HO226.out) hb); have n1_ := Aside0.mk (Kd.R_below (zR6 HO230.out) hb); have n2_ := Aside0.mk (below_step (zB6_0) hb); clear HO226; clear HO230; clear HB; have HO226 := n0_; have HO230 := n1_; have HB := n2_; clear n0_ n1_ n2_; (try clear hb); (try clear hb2); (try clear hk); (try clear hi)))
  go_meet
  case rel => exact ⟨_, (true), (by first | rfl | (simp; done) | (simp [*]; done)), H', ⟨by first | omega | exact Nat.le_refl _⟩, ⟨by (with_reducible repeat (first | apply Kd.R_alloc | apply Kd.R_drewN | apply Kd.R_drew)); exact Kd.R_mono HO226.out (fun _ hk => hk.2)⟩, ⟨by (with_reducible repeat (first | apply Kd.R_alloc | apply Kd.R_drewN | apply Kd.R_drew)); exact Kd.R_mono HO230.out (fun _ hk => hk.2)⟩, ⟨zB6_0⟩⟩
 case rest =>
  clear HC5
  try clear c1
  try clear c2
  try clear c2b0
  try clear c2b1
  try clear p2
  try clear c4
  try clear c8
  try clear c9
  try clear c10
  obtain ⟨kq, x32_4, rfl, HA, HJ4, HO_3, HO_5, HB⟩ := hcut
  cases kq with
  | zero => exact absurd HA.out (by simp [laws_FnExactTraceRead.j0])
  | succ kj4 =>
   have H := HA.out
   clear HA
   simp only [laws_FnExactTraceRead.j0] at H
   by_cases c16 : x32_4 = true
   ·subst c16
    have H1 : (some false) = some r := by rw [if_pos rfl] at H; exact H
    clear H
    have H := H1
    clear H1
    obtain rfl := Option.some.inj H
    go_wp2
    go_ret
    exact ⟨zE6, zB6_0⟩
   replace c16 := Bool.eq_false_iff.mpr c16
   subst c16
   have H1 : ((laws_markEventS.f kj4 t227 1).bind fun bt232 => ((laws_heldEventS.f kj4 bt232.2 1).bind fun t234 => (if t234 < 0 then (some false) else (if t234 = bt232.1 then ((impl_TraceRead.f kj4 a0).bind fun bt235 => ((laws_eqEventS.f kj4 bt235.1 t223).bind fun t239 => (if t239 = true then (laws_FnExactTraceRead.j1 kj4 bt232.2 bt232.1 (bt235.2 != t224)) else (laws_FnExactTraceRead.j1 kj4 bt232.2 bt232.1 true)))) else (some false))))) = some r := by rw [if_neg (show ¬ (false = true) by decide)] at H; exact H
   clear H
   have H := H1
   clear H1
   replace H := Option.bind_eq_some_iff.mp H
   obtain ⟨⟨t232, t233⟩, A170, H⟩ := H
   replace H : ((laws_heldEventS.f kj4 t233 1).bind fun t234 => (if t234 < 0 then (some false) else (if t234 = t232 then ((impl_TraceRead.f kj4 a0).bind fun bt235 => ((laws_eqEventS.f kj4 bt235.1 t223).bind fun t239 => (if t239 = true then (laws_FnExactTraceRead.j1 kj4 t233 t232 (bt235.2 != t224)) else (laws_FnExactTraceRead.j1 kj4 t233 t232 true)))) else (some false)))) = some r := H
   have A17 := Aside0.mk A170
   clear A170
   replace H := Option.bind_eq_some_iff.mp H
   obtain ⟨t234, A180, H⟩ := H
   replace H : (if t234 < 0 then (some false) else (if t234 = t232 then ((impl_TraceRead.f kj4 a0).bind fun bt235 => ((laws_eqEventS.f kj4 bt235.1 t223).bind fun t239 => (if t239 = true then (laws_FnExactTraceRead.j1 kj4 t233 t232 (bt235.2 != t224)) else (laws_FnExactTraceRead.j1 kj4 t233 t232 true)))) else (some false))) = some r := H
   have A18 := Aside0.mk A180
   clear A180
   by_cases c19 : t234 < 0
   ·rw [if_pos c19] at H
    have c19b0 : decide (t234 < 0) = true := decide_eq_true c19
    clear c19
    obtain rfl := Option.some.inj H
    obtain ⟨Ao20, co20, eo20⟩ := Kd.R_slice HO_5.out
    subst eo20
    go_wp2_with (first | ((with_reducible refine gate_callee (f := 11) rfl ?_); refine goesL_ (some 35) rfl rfl Tryd.func11 (by kernel_rfl) rfl #[.slice Ao20 t227.length co20, .int .i64 1] rfl zT6 ?_; (with_reducible refine (laws_markEventS.calls kj4 (fun k_ => some k_ = (.slice Ao20 t227.length co20 : Value).ownBlock) (.slice Ao20 t227.length co20) t227 1 t232 t233 w _ ?side1 ?side2 A17.out).mono ?_); (case side1 => exact zB6_0); (case side2 => exact Kd.R_tight rfl HO_5.out); rintro e w21 ⟨rfl, hy0, hb, hkp⟩; refine ⟨_, rfl, ?_⟩; have n0_ := Aside0.mk (Kd.R_mono (ok' := fun k_ => some k_ ≠ (.slice Ao20 t227.length co20 : Value).ownBlock) (Kd.R_keptB (HO_3.out) hkp (fun k_ hk_ hs_ => (hk_) hs_)) (fun k_ hk_ => hk_.1)); have n1_ := Aside0.mk (Kd.R_reok rfl hy0 (fun k_ e_ => HO_5.out.1 k_ e_)); have n2_ := Aside0.mk (hb); clear HO_3; clear HO_5; clear HB; have HO_3 := n0_; have HO_5 := n1_; have HB := n2_; clear n0_ n1_ n2_; (try clear hb); (try clear hkp); (try clear hy0)) | ((with_reducible refine gate_callee (f := 12) rfl ?_); refine goesL_ (some 38) rfl rfl Tryd.func12 (by kernel_rfl) rfl #[.slice Ao20 t233.length co20, .int .i64 1] rfl (by (try simp only [List.map_toArray, List.map_cons, List.map_nil]); first | done | (rw [show t233.length = t227.length from (Kd.R_reads' HO_5.out).1.symm] <;> rfl) | rfl | (simp only [List.length_drop, List.length_take]; rfl)) ?_; (with_reducible refine (laws_heldEventS.calls kj4 _ _ t233 1 t234 _ ?side1 ?side2 A18.out).mono ?_); (case side1 => exact zC6 (Kd.R_reads' HO_5.out).2.2); (case side2 => rw [show t233.length = t227.length from (Kd.R_reads' HO_5.out).1.symm]; exact (Kd.R_reads' HO_5.out).2.1); rintro e w' ⟨rfl, ⟨nd, rfl⟩⟩; refine ⟨_, rfl, ?_⟩))
    go_ret
    exact ⟨zE6, zB6_0⟩
   rw [if_neg c19] at H
   have c19b0 : decide (t234 < 0) = false := decide_eq_false c19
   clear c19
   by_cases c22 : t234 = t232
   rotate_left
   ·rw [if_neg c22] at H
    have c22b0 : (t234 == t232) = false := beq_eq_false_iff_ne.mpr c22
    have c22b1 : (t234 != t232) = true := bne_iff_ne.mpr c22
    obtain rfl := Option.some.inj H
    obtain ⟨Ao40, co40, eo40⟩ := Kd.R_slice HO_5.out
    subst eo40
    go_wp2_with (first | ((with_reducible refine gate_callee (f := 11) rfl ?_); refine goesL_ (some 35) rfl rfl Tryd.func11 (by kernel_rfl) rfl #[.slice Ao40 t227.length co40, .int .i64 1] rfl zT6 ?_; (with_reducible refine (laws_markEventS.calls kj4 (fun k_ => some k_ = (.slice Ao40 t227.length co40 : Value).ownBlock) (.slice Ao40 t227.length co40) t227 1 t232 t233 w _ ?side1 ?side2 A17.out).mono ?_); (case side1 => exact zB6_0); (case side2 => exact Kd.R_tight rfl HO_5.out); rintro e w41 ⟨rfl, hy0, hb, hkp⟩; refine ⟨_, rfl, ?_⟩; have n0_ := Aside0.mk (Kd.R_mono (ok' := fun k_ => some k_ ≠ (.slice Ao40 t227.length co40 : Value).ownBlock) (Kd.R_keptB (HO_3.out) hkp (fun k_ hk_ hs_ => (hk_) hs_)) (fun k_ hk_ => hk_.1)); have n1_ := Aside0.mk (Kd.R_reok rfl hy0 (fun k_ e_ => HO_5.out.1 k_ e_)); have n2_ := Aside0.mk (hb); clear HO_3; clear HO_5; clear HB; have HO_3 := n0_; have HO_5 := n1_; have HB := n2_; clear n0_ n1_ n2_; (try clear hb); (try clear hkp); (try clear hy0)) | ((with_reducible refine gate_callee (f := 12) rfl ?_); refine goesL_ (some 38) rfl rfl Tryd.func12 (by kernel_rfl) rfl #[.slice Ao40 t233.length co40, .int .i64 1] rfl (by (try simp only [List.map_toArray, List.map_cons, List.map_nil]); first | done | (rw [show t233.length = t227.length from (Kd.R_reads' HO_5.out).1.symm] <;> rfl) | rfl | (simp only [List.length_drop, List.length_take]; rfl)) ?_; (with_reducible refine (laws_heldEventS.calls kj4 _ _ t233 1 t234 _ ?side1 ?side2 A18.out).mono ?_); (case side1 => exact zC6 (Kd.R_reads' HO_5.out).2.2); (case side2 => rw [show t233.length = t227.length from (Kd.R_reads' HO_5.out).1.symm]; exact (Kd.R_reads' HO_5.out).2.1); rintro e w' ⟨rfl, ⟨nd, rfl⟩⟩; refine ⟨_, rfl, ?_⟩))
    go_ret
    exact ⟨zE6, zB6_0⟩
   rw [if_pos c22] at H
   have c22b0 : (t234 == t232) = true := beq_iff_eq.mpr c22
   have c22b1 : (t234 != t232) = false := bne_eq_false_iff_eq.mpr c22
   clear c22
   replace H := Option.bind_eq_some_iff.mp H
   obtain ⟨⟨t235, t236⟩, A230, H⟩ := H
   replace H : ((laws_eqEventS.f kj4 t235 t223).bind fun t239 => (if t239 = true then (laws_FnExactTraceRead.j1 kj4 t233 t232 (t236 != t224)) else (laws_FnExactTraceRead.j1 kj4 t233 t232 true))) = some r := H
   have A23 := Aside0.mk A230
   clear A230
   have HC24 := Aside0.mk H
   clear H
   obtain ⟨Ao25, co25, eo25⟩ := Kd.R_slice HO_5.out
   subst eo25
   go_upto_region 16 with (first | ((with_reducible refine gate_callee (f := 11) rfl ?_); refine goesL_ (some 35) rfl rfl Tryd.func11 (by kernel_rfl) rfl #[.slice Ao25 t227.length co25, .int .i64 1] rfl zT6 ?_; (with_reducible refine (laws_markEventS.calls kj4 (fun k_ => some k_ = (.slice Ao25 t227.length co25 : Value).ownBlock) (.slice Ao25 t227.length co25) t227 1 t232 t233 w _ ?side1 ?side2 A17.out).mono ?_); (case side1 => exact zB6_0); (case side2 => exact Kd.R_tight rfl HO_5.out); rintro e w26 ⟨rfl, hy0, hb, hkp⟩; refine ⟨_, rfl, ?_⟩; have n0_ := Aside0.mk (Kd.R_mono (ok' := fun k_ => some k_ ≠ (.slice Ao25 t227.length co25 : Value).ownBlock) (Kd.R_keptB (HO_3.out) hkp (fun k_ hk_ hs_ => (hk_) hs_)) (fun k_ hk_ => hk_.1)); have n1_ := Aside0.mk (Kd.R_reok rfl hy0 (fun k_ e_ => HO_5.out.1 k_ e_)); have n2_ := Aside0.mk (hb); clear HO_3; clear HO_5; clear HB; have HO_3 := n0_; have HO_5 := n1_; have HB := n2_; clear n0_ n1_ n2_; (try clear hb); (try clear hkp); (try clear hy0)) | ((with_reducible refine gate_callee (f := 12) rfl ?_); refine goesL_ (some 38) rfl rfl Tryd.func12 (by kernel_rfl) rfl #[.slice Ao25 t233.length co25, .int .i64 1] rfl (by (try simp only [List.map_toArray, List.map_cons, List.map_nil]); first | done | (rw [show t233.length = t227.length from (Kd.R_reads' HO_5.out).1.symm] <;> rfl) | rfl | (simp only [List.length_drop, List.length_take]; rfl)) ?_; (with_reducible refine (laws_heldEventS.calls kj4 _ _ t233 1 t234 _ ?side1 ?side2 A18.out).mono ?_); (case side1 => exact zC6 (Kd.R_reads' HO_5.out).2.2); (case side2 => rw [show t233.length = t227.length from (Kd.R_reads' HO_5.out).1.symm]; exact (Kd.R_reads' HO_5.out).2.1); rintro e w' ⟨rfl, ⟨nd, rfl⟩⟩; refine ⟨_, rfl, ?_⟩) | ((with_reducible refine gate_callee (f := 9) rfl ?_); refine goesL_ (some 46) rfl rfl Tryd.func9 (by kernel_rfl) rfl #[.string a0] rfl zT6 ?_; (with_reducible refine (impl_TraceRead.calls kj4 a0 t235 t236 _ A23.out).mono ?_); rintro e w27 ⟨v237, rfl, ho0, hb⟩; refine ⟨_, rfl, ?_⟩; have n0_ := Aside0.mk (Kd.R_elder' (zR6 HO_3.out) (Kd.R_base ho0) hb); have n1_ := Aside0.mk (Kd.R_elder' (zR6 HO_5.out) (Kd.R_base ho0) hb); have n2_ := Aside0.mk (Kd.R_lower (Kd.R_new' (Kd.R_new' ho0 (Kd.R_lt (zR6 HO_3.out))) (Kd.R_lt (zR6 HO_5.out))) (below_size (zB6_0))); have n3_ := Aside0.mk (below_step (zB6_0) hb); clear HO_3; clear HO_5; clear HB; have HO_3 := n0_; have HO_5 := n1_; have HO238 := n2_; have HB := n3_; clear n0_ n1_ n2_ n3_; (try clear hb); (try clear hb2); (try clear hk); (try clear hi); (try clear ho0)))
   (try simp only [Act.put, List.setIfInBounds_toArray, List.set_cons_zero, List.set_cons_succ])
   go_cut [57] (fun v57 wc => ∃ (kq : Nat) (x57_23 : Bool), v57 = .bool x57_23 ∧ Aside0 (laws_FnExactTraceRead.j1 kq t233 t232 x57_23 = some r) ∧ Aside0 (kq ≤ kj4) ∧ Aside0 (Kd.R k23 23 wc w.heap.size (fun _ => True) (.slice Ao25 t227.length co25) t233) ∧ Aside0 (Below w.heap.size w wc))
   case first =>
    have H := HC24.out
    clear HC24
    replace H := Option.bind_eq_some_iff.mp H
    obtain ⟨t239, A280, H⟩ := H
    replace H : (if t239 = true then (laws_FnExactTraceRead.j1 kj4 t233 t232 (t236 != t224)) else (laws_FnExactTraceRead.j1 kj4 t233 t232 true)) = some r := H
    have A28 := Aside0.mk A280
    clear A280
    by_cases c29 : t239 = true
    ·subst c29
     have H1 : (laws_FnExactTraceRead.j1 kj4 t233 t232 (t236 != t224)) = some r := by rw [if_pos rfl] at H; exact H
     clear H
     have H := H1
     clear H1
     have H' := Aside0.mk H
     clear H
     obtain ⟨Ao30, co30, eo30⟩ := Kd.R_slice HO238.out
     subst eo30
     obtain ⟨Ao31, co31, eo31⟩ := Kd.R_slice HO_3.out
     subst eo31
     go_wp2_with (first | ((with_reducible refine gate_callee (f := 10) rfl ?_); refine goesL_ (some 51) rfl rfl Tryd.func10 (by kernel_rfl) rfl #[.slice Ao30 t235.length co30, .slice Ao31 t223.length co31] rfl zT6 ?_; (with_reducible refine (laws_eqEventS.calls kj4 _ _ t235 _ _ t223 true _ ?side1 ?side2 ?side3 ?side4 A28.out).mono ?_); (case side1 => exact zC6 (Kd.R_reads' HO238.out).2.2); (case side2 => exact (Kd.R_reads' HO238.out).2.1); (case side3 => exact zC6 (Kd.R_reads' HO_3.out).2.2); (case side4 => exact (Kd.R_reads' HO_3.out).2.1); rintro e w32 ⟨rfl, hb⟩; refine ⟨_, rfl, ?_⟩; have n0_ := Aside0.mk (Kd.R_below (zR6 HO_3.out) hb); have n1_ := Aside0.mk (Kd.R_below (zR6 HO_5.out) hb); have n2_ := Aside0.mk (Kd.R_below (zR6 HO238.out) hb); have n3_ := Aside0.mk (below_step (zB6_0) hb); clear HO_3; clear HO_5; clear HO238; clear HB; have HO_3 := n0_; have HO_5 := n1_; have HO238 := n2_; have HB := n3_; clear n0_ n1_ n2_ n3_; (try clear hb); (try clear hb2); (try clear hk); (try clear hi)))
     go_meet
     case rel => exact ⟨_, ((t236 != t224)), (by first | rfl | (simp; done) | (simp [*]; done)), H', ⟨by have := HJ4.out; first | omega | exact Nat.le_refl _⟩, ⟨by (with_reducible repeat (first | apply Kd.R_alloc | apply Kd.R_drewN | apply Kd.R_drew)); exact Kd.R_mono HO_5.out (fun _ hk => trivial)⟩, ⟨zB6_0⟩⟩
    replace c29 := Bool.eq_false_iff.mpr c29
    subst c29
    have H1 : (laws_FnExactTraceRead.j1 kj4 t233 t232 true) = some r := by rw [if_neg (show ¬ (false = true) by decide)] at H; exact H
    clear H
    have H := H1
    clear H1
    have H' := Aside0.mk H
    clear H
    obtain ⟨Ao33, co33, eo33⟩ := Kd.R_slice HO238.out
    subst eo33
    obtain ⟨Ao34, co34, eo34⟩ := Kd.R_slice HO_3.out
    subst eo34
    go_wp2_with (first | ((with_reducible refine gate_callee (f := 10) rfl ?_); refine goesL_ (some 51) rfl rfl Tryd.func10 (by kernel_rfl) rfl #[.slice Ao33 t235.length co33, .slice Ao34 t223.length co34] rfl zT6 ?_; (with_reducible refine (laws_eqEventS.calls kj4 _ _ t235 _ _ t223 false _ ?side1 ?side2 ?side3 ?side4 A28.out).mono ?_); (case side1 => exact zC6 (Kd.R_reads' HO238.out).2.2); (case side2 => exact (Kd.R_reads' HO238.out).2.1); (case side3 => exact zC6 (Kd.R_reads' HO_3.out).2.2); (case side4 => exact (Kd.R_reads' HO_3.out).2.1); rintro e w35 ⟨rfl, hb⟩; refine ⟨_, rfl, ?_⟩; have n0_ := Aside0.mk (Kd.R_below (zR6 HO_3.out) hb); have n1_ := Aside0.mk (Kd.R_below (zR6 HO_5.out) hb); have n2_ := Aside0.mk (Kd.R_below (zR6 HO238.out) hb); have n3_ := Aside0.mk (below_step (zB6_0) hb); clear HO_3; clear HO_5; clear HO238; clear HB; have HO_3 := n0_; have HO_5 := n1_; have HO238 := n2_; have HB := n3_; clear n0_ n1_ n2_ n3_; (try clear hb); (try clear hb2); (try clear hk); (try clear hi)))
    go_meet
    case rel => exact ⟨_, (true), (by first | rfl | (simp; done) | (simp [*]; done)), H', ⟨by have := HJ4.out; first | omega | exact Nat.le_refl _⟩, ⟨by (with_reducible repeat (first | apply Kd.R_alloc | apply Kd.R_drewN | apply Kd.R_drew)); exact Kd.R_mono HO_5.out (fun _ hk => trivial)⟩, ⟨zB6_0⟩⟩
   case rest =>
    clear HC24
    try clear c1
    try clear c2
    try clear c2b0
    try clear c2b1
    try clear p2
    try clear c4
    try clear c8
    try clear c9
    try clear c10
    try clear c11
    try clear c12
    try clear c16
    try clear c19
    try clear c19b0
    try clear c22
    try clear c22b0
    try clear c22b1
    try clear c29
    try clear p2
    obtain ⟨kq, x57_23, rfl, HA, HJ23, HO_5, HB⟩ := hcut
    have hl5_23 := (Kd.R_reads' HO_5.out).1
    rw [hl5_23] at HO_5
    (try simp only [hl5_23])
    cases kq with
    | zero => exact absurd HA.out (by simp [laws_FnExactTraceRead.j1])
    | succ kj23 =>
     have H := HA.out
     clear HA
     simp only [laws_FnExactTraceRead.j1] at H
     by_cases c36 : x57_23 = true
     ·subst c36
      have H1 : (some false) = some r := by rw [if_pos rfl] at H; exact H
      clear H
      have H := H1
      clear H1
      obtain rfl := Option.some.inj H
      go_wp2
      go_ret
      exact ⟨zE6, zB6_0⟩
     replace c36 := Bool.eq_false_iff.mpr c36
     subst c36
     have H1 : ((laws_heldEventS.f kj23 t233 1).bind fun t240 => (if t240 < 0 then (some false) else (if t240 = t232 then (some true) else (some false)))) = some r := by rw [if_neg (show ¬ (false = true) by decide)] at H; exact H
     clear H
     have H := H1
     clear H1
     replace H := Option.bind_eq_some_iff.mp H
     obtain ⟨t240, A370, H⟩ := H
     replace H : (if t240 < 0 then (some false) else (if t240 = t232 then (some true) else (some false))) = some r := H
     have A37 := Aside0.mk A370
     clear A370
     by_cases c38 : t240 < 0
     ·rw [if_pos c38] at H
      have c38b0 : decide (t240 < 0) = true := decide_eq_true c38
      clear c38
      obtain rfl := Option.some.inj H
      go_wp2_with (first | ((with_reducible refine gate_callee (f := 12) rfl ?_); refine goesL_ (some 60) rfl rfl Tryd.func12 (by kernel_rfl) rfl #[.slice Ao25 t233.length co25, .int .i64 1] rfl zT6 ?_; (with_reducible refine (laws_heldEventS.calls kj23 _ _ t233 1 t240 _ ?side1 ?side2 A37.out).mono ?_); (case side1 => exact zC6 (Kd.R_reads' HO_5.out).2.2); (case side2 => exact (Kd.R_reads' HO_5.out).2.1); rintro e w' ⟨rfl, ⟨nd, rfl⟩⟩; refine ⟨_, rfl, ?_⟩))
      go_ret
      exact ⟨zE6, zB6_0⟩
     rw [if_neg c38] at H
     have c38b0 : decide (t240 < 0) = false := decide_eq_false c38
     clear c38
     by_cases c39 : t240 = t232
     rotate_left
     ·rw [if_neg c39] at H
      have c39b0 : (t240 == t232) = false := beq_eq_false_iff_ne.mpr c39
      have c39b1 : (t240 != t232) = true := bne_iff_ne.mpr c39
      obtain rfl := Option.some.inj H
      go_wp2_with (first | ((with_reducible refine gate_callee (f := 12) rfl ?_); refine goesL_ (some 60) rfl rfl Tryd.func12 (by kernel_rfl) rfl #[.slice Ao25 t233.length co25, .int .i64 1] rfl zT6 ?_; (with_reducible refine (laws_heldEventS.calls kj23 _ _ t233 1 t240 _ ?side1 ?side2 A37.out).mono ?_); (case side1 => exact zC6 (Kd.R_reads' HO_5.out).2.2); (case side2 => exact (Kd.R_reads' HO_5.out).2.1); rintro e w' ⟨rfl, ⟨nd, rfl⟩⟩; refine ⟨_, rfl, ?_⟩))
      go_ret
      exact ⟨zE6, zB6_0⟩
     rw [if_pos c39] at H
     have c39b0 : (t240 == t232) = true := beq_iff_eq.mpr c39
     have c39b1 : (t240 != t232) = false := bne_eq_false_iff_eq.mpr c39
     clear c39
     obtain rfl := Option.some.inj H
     go_wp2_with (first | ((with_reducible refine gate_callee (f := 12) rfl ?_); refine goesL_ (some 60) rfl rfl Tryd.func12 (by kernel_rfl) rfl #[.slice Ao25 t233.length co25, .int .i64 1] rfl zT6 ?_; (with_reducible refine (laws_heldEventS.calls kj23 _ _ t233 1 t240 _ ?side1 ?side2 A37.out).mono ?_); (case side1 => exact zC6 (Kd.R_reads' HO_5.out).2.2); (case side2 => exact (Kd.R_reads' HO_5.out).2.1); rintro e w' ⟨rfl, ⟨nd, rfl⟩⟩; refine ⟨_, rfl, ?_⟩))
     go_ret
     exact ⟨zE6, zB6_0⟩

/-- THE ONE PURE STATEMENT of laws_FnExactTraceRead: yours. -/
def laws_FnExactTraceRead.Pure : Prop := ∀ (a0 : ByteArray), a0.size ≤ 140737488351232 → ∃ k, laws_FnExactTraceRead.f k a0 = some true
theorem laws_FnExactTraceRead.walk (P : laws_FnExactTraceRead.Pure) (a0 : ByteArray) (w : World) (w0 : a0.size ≤ 140737488351232) :
  Calls Tryd.prog 4 #[.string a0] w fun e w' => e = .returned (.bool true) ∧ Below w.heap.size w w' := by
 obtain ⟨k, h⟩ := P a0 w0
 refine (laws_FnExactTraceRead.calls k a0 true w h).mono ?_
 rintro e w' ⟨rfl, hd⟩
 exact ⟨rfl, hd⟩

end Go.Proofs.YthmkclelkijhoaaDoor.PFnExactTraceRead
