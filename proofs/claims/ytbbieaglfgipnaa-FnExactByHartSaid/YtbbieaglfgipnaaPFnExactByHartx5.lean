-- made by wip/tools/myprint.py out of the seat's translation
import Derived.Test.YtbbieaglfgipnaaPFnExactByHartx0
import Derived.Test.YtbbieaglfgipnaaPFnExactByHartx1
import Derived.Test.YtbbieaglfgipnaaPFnExactByHartx2
import Derived.Test.YtbbieaglfgipnaaPFnExactByHartx3
import Derived.Test.YtbbieaglfgipnaaPFnExactByHartx4
namespace Go.Proofs.Ytbbieaglfgipnaa.PFnExactByHart
open Go.RowKit Go.Proofs.YtbbieaglfgipnaaW.PrintWords Go.Proofs.YtbbieaglfgipnaaW.PrintLast Go.Proofs.YtbbieaglfgipnaaW.PrintMore
attribute [local go_sem] max2_int min2_int max_two min_two max_three min_three max_four min_four   -- for this text's walks alone
set_option linter.unusedVariables false
set_option linter.unusedSimpArgs false
theorem zA5 {p : Prop} [Decidable p] (h : decide p = true := by first | (with_reducible assumption) | assumption) : p := of_decide_eq_true h
theorem zT5 {p : Prop} (h : p := by (try simp only [List.map_toArray, List.map_cons, List.map_nil]); first | done | rfl | (simp only [List.length_drop, List.length_take]; rfl)) : p := h
theorem zC5 {p q : Prop} (x : q) (h : q → p := by intro h; repeat (first | exact h | (with_reducible refine Kd.C_alloc ?_ _) | (with_reducible refine Kd.C_drewN ?_ _) | (with_reducible refine Kd.C_drew ?_))) : p := h x

/-! ### laws_heldDidS: function 68 -/
def laws_heldDidS.l0 : Nat → List (S74) → Int → Int → Option (Int)
 | 0, _, _, _ => none
 | k + 1, x0, x1, x5 => if x5 < (x0.length : Int) then (if 0 ≤ x5 then (if ((rd_T74 x0 x5).f0) = x1 then (if ((rd_T74 x0 x5).f1) = (wrap64 (x1 + 1)) then (if ((rd_T74 x0 x5).f2) = (wrap64 ((wrap64 (x1 + 1)) + 1)) then (laws_heldDidS.l0 k x0 (wrap64 ((wrap64 ((wrap64 (x1 + 1)) + 1)) + 1)) (wrap64 (x5 + 1))) else (some (-1))) else (some (-1))) else (some (-1))) else (none)) else (some x1)
def laws_heldDidS.f (k : Nat) (l0 : List (S74)) (a1 : Int) : Option (Int) := laws_heldDidS.l0 k l0 a1 0
theorem laws_heldDidS.mono_l : ∀ k, (∀ y0 y1 y2, LeO (laws_heldDidS.l0 k y0 y1 y2) (laws_heldDidS.l0 (k + 1) y0 y1 y2))
 | 0 => fun _ _ _ r h => by simp [laws_heldDidS.l0] at h
 | k + 1 => by
  have ih0 := laws_heldDidS.mono_l k
  ·intro y0 y1 y2
   unfold laws_heldDidS.l0
   repeat' first
   | (with_reducible exact ih0 _ _ _)
   | (with_reducible exact LeO.refl _)
   | (with_reducible exact LeO.none _)
   | (with_reducible refine LeO.ite ?_ ?_)
   | (with_reducible refine LeO.bind ?_ (fun _ => ?_))
   | exact ih0 _ _ _
   | exact LeO.none _
   | refine LeO.ite ?_ ?_
   | refine LeO.bind ?_ (fun _ => ?_)
theorem laws_heldDidS.mono : ∀ a0 a1 k, LeO (laws_heldDidS.f k a0 a1) (laws_heldDidS.f (k + 1) a0 a1) := by
 intro a0 a1 k
 have ih0 := laws_heldDidS.mono_l k
 unfold laws_heldDidS.f
 repeat' first
   | (with_reducible exact ih0 _ _ _)
   | (with_reducible exact LeO.refl _)
   | (with_reducible exact LeO.none _)
   | (with_reducible refine LeO.ite ?_ ?_)
   | (with_reducible refine LeO.bind ?_ (fun _ => ?_))
   | exact ih0 _ _ _
   | exact LeO.none _
   | refine LeO.ite ?_ ?_
   | refine LeO.bind ?_ (fun _ => ?_)
set_option maxHeartbeats 8000000 in
set_option maxRecDepth 100000 in
theorem laws_heldDidS.calls (k : Nat) (A0 : Option Addr) (c0 : Nat) (l0 : List (S74)) (a1 : Int) (r : Int) (w : World) (hr0 : Kd.C k74 w A0 l0.length l0) (hc0 : l0.length ≤ c0) (h : laws_heldDidS.f k l0 a1 = some r) :
  Calls Try.prog 68 #[.slice A0 l0.length c0, .int .i64 a1] w fun e w' => e = .returned (.int .i64 r) ∧ Drawn0 w w' := by
 have HR0 := Aside0.mk hr0
 have HC0 := Aside0.mk hc0
 clear hr0 hc0
 have H : (laws_heldDidS.l0 k l0 a1 0) = some r := h
 clear h
 have H' := Aside0.mk H
 clear H
 go_enter Try.func68, Try.ntmps68
 go_wp2
 go_loopg [1, 5] k (fun kq v1 v5 w' => ∃ (x1_1 : Int) (x5_1 : Int), v1 = .int .i64 x1_1 ∧ v5 = .int .i64 x5_1 ∧ Aside0 (laws_heldDidS.l0 kq l0 x1_1 x5_1 = some r) ∧ Aside0 (kq ≤ k) ∧ Drawn0 w w')
 case atStart => exact ⟨(a1), (0), (by first | rfl | (simp; done) | (simp [*]; done)), (by first | rfl | (simp; done) | (simp [*]; done)), H', ⟨Nat.le_refl _⟩, by repeat (first | exact Drawn0.refl _ | apply Drawn0.step)⟩
 case round =>
  clear H'
  try clear p2
  obtain ⟨x1_1, x5_1, rfl, rfl, HA, HK1, ⟨m1, rfl⟩⟩ := hrel
  cases gk with
  | zero => exact absurd HA.out (by simp [laws_heldDidS.l0])
  | succ k1 =>
   have H := HA.out
   clear HA
   simp only [laws_heldDidS.l0] at H
   by_cases c3 : x5_1 < (l0.length : Int)
   rotate_left
   ·rw [if_neg c3] at H
    have c3b0 : decide (x5_1 < (l0.length : Int)) = false := decide_eq_false c3
    clear c3
    obtain rfl := Option.some.inj H
    go_wp2
    go_ret
    exact ⟨by first | rfl | (simp; done) | (simp [*]; done), by repeat (first | exact Drawn0.refl _ | apply Drawn0.step)⟩
   rw [if_pos c3] at H
   have c3b0 : decide (x5_1 < (l0.length : Int)) = true := decide_eq_true c3
   clear c3
   by_cases c4 : 0 ≤ x5_1
   rotate_left
   ·rw [if_neg c4] at H
    exact absurd H (by simp)
   rw [if_pos c4] at H
   have c4b0 : decide (0 ≤ x5_1) = true := decide_eq_true c4
   clear c4
   by_cases c5 : ((rd_T74 l0 x5_1).f0) = x1_1
   rotate_left
   ·rw [if_neg c5] at H
    have c5b0 : (((rd_T74 l0 x5_1).f0) == x1_1) = false := beq_eq_false_iff_ne.mpr c5
    have c5b1 : (((rd_T74 l0 x5_1).f0) != x1_1) = true := bne_iff_ne.mpr c5
    obtain rfl := Option.some.inj H
    have p162 : 0 ≤ (x5_1 : Int) := zA5
    have q162 : x5_1 < (l0.length : Int) := zA5
    obtain ⟨ad162, e162, hx162_0, hx162_1, hx162_2⟩ := at_T74 HR0.out x5_1 p162 q162
    cases e162
    replace p162 := eq_true p162
    replace q162 := eq_true q162
    go_wp2
    go_ret
    exact ⟨by first | rfl | (simp; done) | (simp [*]; done), by repeat (first | exact Drawn0.refl _ | apply Drawn0.step)⟩
   rw [if_pos c5] at H
   have c5b0 : (((rd_T74 l0 x5_1).f0) == x1_1) = true := beq_iff_eq.mpr c5
   have c5b1 : (((rd_T74 l0 x5_1).f0) != x1_1) = false := bne_eq_false_iff_eq.mpr c5
   clear c5
   by_cases c6 : ((rd_T74 l0 x5_1).f1) = (wrap64 (x1_1 + 1))
   rotate_left
   ·rw [if_neg c6] at H
    have c6b0 : (((rd_T74 l0 x5_1).f1) == (wrap64 (x1_1 + 1))) = false := beq_eq_false_iff_ne.mpr c6
    have c6b1 : (((rd_T74 l0 x5_1).f1) != (wrap64 (x1_1 + 1))) = true := bne_iff_ne.mpr c6
    obtain rfl := Option.some.inj H
    have p162 : 0 ≤ (x5_1 : Int) := zA5
    have q162 : x5_1 < (l0.length : Int) := zA5
    obtain ⟨ad162, e162, hx162_0, hx162_1, hx162_2⟩ := at_T74 HR0.out x5_1 p162 q162
    cases e162
    replace p162 := eq_true p162
    replace q162 := eq_true q162
    have p163 : 0 ≤ (x5_1 : Int) := zA5
    have q163 : x5_1 < (l0.length : Int) := zA5
    obtain ⟨ad163, e163, hx163_0, hx163_1, hx163_2⟩ := at_T74 HR0.out x5_1 p163 q163
    obtain rfl : ad162 = ad163 := (by injection e163)
    replace p163 := eq_true p163
    replace q163 := eq_true q163
    go_wp2
    go_ret
    exact ⟨by first | rfl | (simp; done) | (simp [*]; done), by repeat (first | exact Drawn0.refl _ | apply Drawn0.step)⟩
   rw [if_pos c6] at H
   have c6b0 : (((rd_T74 l0 x5_1).f1) == (wrap64 (x1_1 + 1))) = true := beq_iff_eq.mpr c6
   have c6b1 : (((rd_T74 l0 x5_1).f1) != (wrap64 (x1_1 + 1))) = false := bne_eq_false_iff_eq.mpr c6
   clear c6
   by_cases c7 : ((rd_T74 l0 x5_1).f2) = (wrap64 ((wrap64 (x1_1 + 1)) + 1))
   rotate_left
   ·rw [if_neg c7] at H
    have c7b0 : (((rd_T74 l0 x5_1).f2) == (wrap64 ((wrap64 (x1_1 + 1)) + 1))) = false := beq_eq_false_iff_ne.mpr c7
    have c7b1 : (((rd_T74 l0 x5_1).f2) != (wrap64 ((wrap64 (x1_1 + 1)) + 1))) = true := bne_iff_ne.mpr c7
    obtain rfl := Option.some.inj H
    have p162 : 0 ≤ (x5_1 : Int) := zA5
    have q162 : x5_1 < (l0.length : Int) := zA5
    obtain ⟨ad162, e162, hx162_0, hx162_1, hx162_2⟩ := at_T74 HR0.out x5_1 p162 q162
    cases e162
    replace p162 := eq_true p162
    replace q162 := eq_true q162
    have p163 : 0 ≤ (x5_1 : Int) := zA5
    have q163 : x5_1 < (l0.length : Int) := zA5
    obtain ⟨ad163, e163, hx163_0, hx163_1, hx163_2⟩ := at_T74 HR0.out x5_1 p163 q163
    obtain rfl : ad162 = ad163 := (by injection e163)
    replace p163 := eq_true p163
    replace q163 := eq_true q163
    have p164 : 0 ≤ (x5_1 : Int) := zA5
    have q164 : x5_1 < (l0.length : Int) := zA5
    obtain ⟨ad164, e164, hx164_0, hx164_1, hx164_2⟩ := at_T74 HR0.out x5_1 p164 q164
    obtain rfl : ad162 = ad164 := (by injection e164)
    replace p164 := eq_true p164
    replace q164 := eq_true q164
    go_wp2
    go_ret
    exact ⟨by first | rfl | (simp; done) | (simp [*]; done), by repeat (first | exact Drawn0.refl _ | apply Drawn0.step)⟩
   rw [if_pos c7] at H
   have c7b0 : (((rd_T74 l0 x5_1).f2) == (wrap64 ((wrap64 (x1_1 + 1)) + 1))) = true := beq_iff_eq.mpr c7
   have c7b1 : (((rd_T74 l0 x5_1).f2) != (wrap64 ((wrap64 (x1_1 + 1)) + 1))) = false := bne_eq_false_iff_eq.mpr c7
   clear c7
   have H' := Aside0.mk H
   clear H
   have p162 : 0 ≤ (x5_1 : Int) := zA5
   have q162 : x5_1 < (l0.length : Int) := zA5
   obtain ⟨ad162, e162, hx162_0, hx162_1, hx162_2⟩ := at_T74 HR0.out x5_1 p162 q162
   cases e162
   replace p162 := eq_true p162
   replace q162 := eq_true q162
   have p163 : 0 ≤ (x5_1 : Int) := zA5
   have q163 : x5_1 < (l0.length : Int) := zA5
   obtain ⟨ad163, e163, hx163_0, hx163_1, hx163_2⟩ := at_T74 HR0.out x5_1 p163 q163
   obtain rfl : ad162 = ad163 := (by injection e163)
   replace p163 := eq_true p163
   replace q163 := eq_true q163
   have p164 : 0 ≤ (x5_1 : Int) := zA5
   have q164 : x5_1 < (l0.length : Int) := zA5
   obtain ⟨ad164, e164, hx164_0, hx164_1, hx164_2⟩ := at_T74 HR0.out x5_1 p164 q164
   obtain rfl : ad162 = ad164 := (by injection e164)
   replace p164 := eq_true p164
   replace q164 := eq_true q164
   go_wp2
   go_roundg k1
   case measure => have := HK1.out; omega
   case rel => exact ⟨(wrap64 ((wrap64 ((wrap64 (x1_1 + 1)) + 1)) + 1)), (wrap64 (x5_1 + 1)), (by first | rfl | (simp; done) | (simp [*]; done)), (by first | rfl | (simp; done) | (simp [*]; done)), H', ⟨by have := HK1.out; omega⟩, by repeat (first | exact Drawn0.refl _ | apply Drawn0.step)⟩

/-! ### laws_heldDidSS: function 22 -/
def laws_heldDidSS.l0 : Nat → List (List (S74)) → Int → Int → Option (Int)
 | 0, _, _, _ => none
 | k + 1, x0, x1, x5 => if x5 < (x0.length : Int) then (if 0 ≤ x5 then ((laws_heldDidS.f k (rd_L4 x0 x5) x1).bind fun t166 => (if t166 < 0 then (some (-1)) else (laws_heldDidSS.l0 k x0 t166 (wrap64 (x5 + 1))))) else (none)) else (some x1)
def laws_heldDidSS.f (k : Nat) (l0 : List (List (S74))) (a1 : Int) : Option (Int) := laws_heldDidSS.l0 k l0 a1 0
theorem laws_heldDidSS.mono_l : ∀ k, (∀ y0 y1 y2, LeO (laws_heldDidSS.l0 k y0 y1 y2) (laws_heldDidSS.l0 (k + 1) y0 y1 y2))
 | 0 => fun _ _ _ r h => by simp [laws_heldDidSS.l0] at h
 | k + 1 => by
  have ih0 := laws_heldDidSS.mono_l k
  ·intro y0 y1 y2
   unfold laws_heldDidSS.l0
   repeat' first
   | (with_reducible exact ih0 _ _ _)
   | (with_reducible exact laws_heldDidS.mono _ _ _)
   | (with_reducible exact LeO.refl _)
   | (with_reducible exact LeO.none _)
   | (with_reducible refine LeO.ite ?_ ?_)
   | (with_reducible refine LeO.bind ?_ (fun _ => ?_))
   | exact ih0 _ _ _
   | exact laws_heldDidS.mono _ _ _
   | exact LeO.none _
   | refine LeO.ite ?_ ?_
   | refine LeO.bind ?_ (fun _ => ?_)
theorem laws_heldDidSS.mono : ∀ a0 a1 k, LeO (laws_heldDidSS.f k a0 a1) (laws_heldDidSS.f (k + 1) a0 a1) := by
 intro a0 a1 k
 have ih0 := laws_heldDidSS.mono_l k
 unfold laws_heldDidSS.f
 repeat' first
   | (with_reducible exact ih0 _ _ _)
   | (with_reducible exact laws_heldDidS.mono _ _ _)
   | (with_reducible exact LeO.refl _)
   | (with_reducible exact LeO.none _)
   | (with_reducible refine LeO.ite ?_ ?_)
   | (with_reducible refine LeO.bind ?_ (fun _ => ?_))
   | exact ih0 _ _ _
   | exact laws_heldDidS.mono _ _ _
   | exact LeO.none _
   | refine LeO.ite ?_ ?_
   | refine LeO.bind ?_ (fun _ => ?_)
set_option maxHeartbeats 8000000 in
set_option maxRecDepth 100000 in
theorem laws_heldDidSS.calls (k : Nat) (A0 : Option Addr) (c0 : Nat) (l0 : List (List (S74))) (a1 : Int) (r : Int) (w : World) (hr0 : Kd.C (Kd.slice 74 k74) w A0 l0.length l0) (hc0 : l0.length ≤ c0) (h : laws_heldDidSS.f k l0 a1 = some r) :
  Calls Try.prog 22 #[.slice A0 l0.length c0, .int .i64 a1] w fun e w' => e = .returned (.int .i64 r) ∧ Drawn0 w w' := by
 have HR0 := Aside0.mk hr0
 have HC0 := Aside0.mk hc0
 clear hr0 hc0
 have H : (laws_heldDidSS.l0 k l0 a1 0) = some r := h
 clear h
 have H' := Aside0.mk H
 clear H
 go_enter Try.func22, Try.ntmps22
 go_wp2
 go_loopg [1, 5] k (fun kq v1 v5 w' => ∃ (x1_1 : Int) (x5_1 : Int), v1 = .int .i64 x1_1 ∧ v5 = .int .i64 x5_1 ∧ Aside0 (laws_heldDidSS.l0 kq l0 x1_1 x5_1 = some r) ∧ Aside0 (kq ≤ k) ∧ Drawn0 w w')
 case atStart => exact ⟨(a1), (0), (by first | rfl | (simp; done) | (simp [*]; done)), (by first | rfl | (simp; done) | (simp [*]; done)), H', ⟨Nat.le_refl _⟩, by repeat (first | exact Drawn0.refl _ | apply Drawn0.step)⟩
 case round =>
  clear H'
  try clear c2
  try clear p2
  obtain ⟨x1_1, x5_1, rfl, rfl, HA, HK1, ⟨m1, rfl⟩⟩ := hrel
  cases gk with
  | zero => exact absurd HA.out (by simp [laws_heldDidSS.l0])
  | succ k1 =>
   have H := HA.out
   clear HA
   simp only [laws_heldDidSS.l0] at H
   by_cases c3 : x5_1 < (l0.length : Int)
   rotate_left
   ·rw [if_neg c3] at H
    have c3b0 : decide (x5_1 < (l0.length : Int)) = false := decide_eq_false c3
    clear c3
    obtain rfl := Option.some.inj H
    go_wp2
    go_ret
    exact ⟨by first | rfl | (simp; done) | (simp [*]; done), by repeat (first | exact Drawn0.refl _ | apply Drawn0.step)⟩
   rw [if_pos c3] at H
   have c3b0 : decide (x5_1 < (l0.length : Int)) = true := decide_eq_true c3
   clear c3
   by_cases c4 : 0 ≤ x5_1
   rotate_left
   ·rw [if_neg c4] at H
    exact absurd H (by simp)
   rw [if_pos c4] at H
   have c4b0 : decide (0 ≤ x5_1) = true := decide_eq_true c4
   clear c4
   replace H := Option.bind_eq_some_iff.mp H
   obtain ⟨t166, A50, H⟩ := H
   replace H : (if t166 < 0 then (some (-1)) else (laws_heldDidSS.l0 k1 l0 t166 (wrap64 (x5_1 + 1)))) = some r := H
   have A5 := Aside0.mk A50
   clear A50
   by_cases c6 : t166 < 0
   ·rw [if_pos c6] at H
    have c6b0 : decide (t166 < 0) = true := decide_eq_true c6
    clear c6
    obtain rfl := Option.some.inj H
    have p165 : 0 ≤ (x5_1 : Int) := zA5
    have q165 : x5_1 < (l0.length : Int) := zA5
    obtain ⟨ad165, A165_0, c165_0, e165, hx165_0, hl165_0, hi165_0⟩ := at_L4 HR0.out x5_1 p165 q165
    cases e165
    have HR165_0 := Aside0.mk hi165_0
    have HC165_0 := Aside0.mk hl165_0
    clear hi165_0 hl165_0
    replace p165 := eq_true p165
    replace q165 := eq_true q165
    go_wp2_with (first | ((with_reducible refine gate_callee (f := 68) rfl ?_); refine goesL_ (some 17) rfl rfl Try.func68 (by kernel_rfl) rfl #[.slice A165_0 (rd_L4 l0 x5_1).length c165_0, .int .i64 x1_1] rfl zT5 ?_; (with_reducible refine (laws_heldDidS.calls k1 _ _ (rd_L4 l0 x5_1) x1_1 t166 _ ?side1 ?side2 A5.out).mono ?_); (case side1 => exact zC5 HR165_0.out); (case side2 => exact HC165_0.out); rintro e w' ⟨rfl, ⟨nd, rfl⟩⟩; refine ⟨_, rfl, ?_⟩))
    go_ret
    exact ⟨by first | rfl | (simp; done) | (simp [*]; done), by repeat (first | exact Drawn0.refl _ | apply Drawn0.step)⟩
   rw [if_neg c6] at H
   have c6b0 : decide (t166 < 0) = false := decide_eq_false c6
   clear c6
   have H' := Aside0.mk H
   clear H
   have p165 : 0 ≤ (x5_1 : Int) := zA5
   have q165 : x5_1 < (l0.length : Int) := zA5
   obtain ⟨ad165, A165_0, c165_0, e165, hx165_0, hl165_0, hi165_0⟩ := at_L4 HR0.out x5_1 p165 q165
   cases e165
   have HR165_0 := Aside0.mk hi165_0
   have HC165_0 := Aside0.mk hl165_0
   clear hi165_0 hl165_0
   replace p165 := eq_true p165
   replace q165 := eq_true q165
   go_wp2_with (first | ((with_reducible refine gate_callee (f := 68) rfl ?_); refine goesL_ (some 17) rfl rfl Try.func68 (by kernel_rfl) rfl #[.slice A165_0 (rd_L4 l0 x5_1).length c165_0, .int .i64 x1_1] rfl zT5 ?_; (with_reducible refine (laws_heldDidS.calls k1 _ _ (rd_L4 l0 x5_1) x1_1 t166 _ ?side1 ?side2 A5.out).mono ?_); (case side1 => exact zC5 HR165_0.out); (case side2 => exact HC165_0.out); rintro e w' ⟨rfl, ⟨nd, rfl⟩⟩; refine ⟨_, rfl, ?_⟩))
   go_roundg k1
   case measure => have := HK1.out; omega
   case rel => exact ⟨(t166), (wrap64 (x5_1 + 1)), (by first | rfl | (simp; done) | (simp [*]; done)), (by first | rfl | (simp; done) | (simp [*]; done)), H', ⟨by have := HK1.out; omega⟩, by repeat (first | exact Drawn0.refl _ | apply Drawn0.step)⟩

/-! ### laws_FnExactByHart: function 3 -/
def KT (w : World) (L : List Nat) (k : Nat) : Prop := ∃ q, q ∈ L ∧ ∃ cells, w.heap[k]? = some (.cells cells q (0, 0))
theorem KT_ne {w : World} {L1 L2 : List Nat} {k : Nat} (hd : ∀ q, q ∈ L1 → ¬ q ∈ L2) (h1 : KT w L1 k) (h2 : KT w L2 k) : False := by
 obtain ⟨q1, m1, c1, e1⟩ := h1; obtain ⟨q2, m2, c2, e2⟩ := h2
 rw [e1] at e2; simp at e2; obtain ⟨_, rfl⟩ := e2; exact hd _ m1 m2
theorem own_any {A : Option Addr} {n n' c c' : Nat} : (Value.slice A n c).ownBlock = (Value.slice A n' c').ownBlock := by cases A <;> rfl
theorem iv_R {α : Type} {d : Kd α} {e b : Nat} {ok : Nat → Prop} {W w' : World} {v : Value} {xs : List α} (h : d.R e w' W.heap.size ok v xs) (hb : b ≤ W.heap.size) : d.R e w' b (fun k => W.heap.size ≤ k ∧ k < w'.heap.size ∧ KT w' (e :: d.E) k ∧ ok k) v xs := Kd.R_lower (Kd.R_mono (Kd.R_bound h) (fun _ hk => ⟨hk.2.1, hk.2.2.1, hk.2.2.2, hk.1⟩)) hb
theorem iv_O {α : Type} {d : Kd α} {e b : Nat} {ok : Nat → Prop} {W w' : World} {v : Value} {xs : List α} (hE : d.E = []) (h : d.R e w' W.heap.size ok v xs) (hb : b ≤ W.heap.size) : d.R e w' b (fun k => W.heap.size ≤ k ∧ k < w'.heap.size ∧ KT w' (e :: d.E) k ∧ some k = v.ownBlock) v xs := Kd.R_lower (Kd.R_mono (Kd.R_bound (Kd.R_tight2 hE h)) (fun _ hk => ⟨hk.2.1, hk.2.2.1, hk.2.2.2, hk.1.1⟩)) hb
theorem iv_S {α : Type} {d : Kd α} {e b : Nat} {ok : Nat → Prop} {W w' : World} {v : Value} {xs : List α} (h : Kd.S d e w' W.heap.size ok v xs) (hb : b ≤ W.heap.size) : Kd.S d e w' b (fun k => W.heap.size ≤ k ∧ k < w'.heap.size ∧ KT w' (e :: d.E) k ∧ ok k) v xs := Kd.S_lower (Kd.S_mono (Kd.S_bound h) (fun _ hk => ⟨hk.2.1, hk.2.2.1, hk.2.2.2, hk.1⟩)) hb
theorem iv_Q {α : Type} {d : Kd α} {e b : Nat} {ok : Nat → Prop} {W w' : World} {v : Value} {xs : List α} (h : d.Q e w' W.heap.size ok v xs) (hb : b ≤ W.heap.size) : d.Q e w' b (fun k => W.heap.size ≤ k ∧ k < w'.heap.size ∧ KT w' (e :: d.E) k ∧ ok k) v xs := Kd.Q_lower (Kd.Q_mono (Kd.Q_bound h) (fun _ hk => ⟨hk.2.1, hk.2.2.1, hk.2.2.2, hk.1⟩)) hb
def laws_FnExactByHart.f (k : Nat) (a0 : Int) (l1 : List (S76)) : Option (Bool) := (laws_szEventS.f l1 1048576).bind fun t199 => (if t199 < 0 then (some true) else ((laws_toEventS.f k l1).bind fun t200 => ((spec_ByHart.f k a0 t200).bind fun t203 => ((laws_toEventS.f k l1).bind fun t206 => ((impl_ByHart.f k a0 t206).bind fun t209 => ((laws_eqDidSS.f k t209 t203).bind fun t212 => (if t212 = true then ((laws_toEventS.f k l1).bind fun t213 => ((laws_eqEventS.f k t206 t213).bind fun t216 => (if t216 = true then ((laws_markEventS.f k t206 1).bind fun bt217 => (if bt217.1 < 0 then (some false) else ((laws_eqDidSS.f k t209 t203).bind fun t219 => (if t219 = true then ((laws_markDidSS.f k t209 1).bind fun bt220 => ((laws_heldDidSS.f k bt220.2 1).bind fun t222 => (if t222 < 0 then (some false) else (if t222 = bt220.1 then ((laws_toEventS.f k l1).bind fun t223 => ((impl_ByHart.f k a0 t223).bind fun t226 => ((laws_eqDidSS.f k t226 t203).bind fun t229 => (if t229 = true then ((laws_heldDidSS.f k bt220.2 1).bind fun t230 => (if t230 < 0 then (some false) else (if t230 = bt220.1 then (some true) else (some false)))) else (some false))))) else (some false))))) else (some false))))) else (some false)))) else (some false))))))))
theorem laws_FnExactByHart.mono : ∀ a0 a1 k, LeO (laws_FnExactByHart.f k a0 a1) (laws_FnExactByHart.f (k + 1) a0 a1) := by
 intro a0 a1 k
 unfold laws_FnExactByHart.f
 repeat' first
   | (with_reducible exact impl_ByHart.mono _ _ _)
   | (with_reducible exact laws_eqDidSS.mono _ _ _)
   | (with_reducible exact laws_eqEventS.mono _ _ _)
   | (with_reducible exact laws_heldDidSS.mono _ _ _)
   | (with_reducible exact laws_markDidSS.mono _ _ _)
   | (with_reducible exact laws_markEventS.mono _ _ _)
   | (with_reducible exact laws_toEventS.mono _ _)
   | (with_reducible exact spec_ByHart.mono _ _ _)
   | (with_reducible exact LeO.refl _)
   | (with_reducible exact LeO.none _)
   | (with_reducible refine LeO.ite ?_ ?_)
   | (with_reducible refine LeO.bind ?_ (fun _ => ?_))
   | exact impl_ByHart.mono _ _ _
   | exact laws_eqDidSS.mono _ _ _
   | exact laws_eqEventS.mono _ _ _
   | exact laws_heldDidSS.mono _ _ _
   | exact laws_markDidSS.mono _ _ _
   | exact laws_markEventS.mono _ _ _
   | exact laws_toEventS.mono _ _
   | exact spec_ByHart.mono _ _ _
   | exact LeO.none _
   | refine LeO.ite ?_ ?_
   | refine LeO.bind ?_ (fun _ => ?_)
set_option maxHeartbeats 8000000 in
set_option maxRecDepth 100000 in
theorem laws_FnExactByHart.calls (k : Nat) (a0 : Int) (A1 : Option Addr) (c1 : Nat) (l1 : List (S76)) (r : Bool) (w : World) (hr1 : Kd.C k76 w A1 l1.length l1) (hc1 : l1.length ≤ c1) (hr_ : r = true) (h : laws_FnExactByHart.f k a0 l1 = some r) :
  Calls Try.prog 3 #[.int .i64 a0, .slice A1 l1.length c1] w fun e w' => e = .returned (.bool r) ∧ Below w.heap.size w w' := by
 subst hr_
 have HR1 := Aside0.mk hr1
 have HC1 := Aside0.mk hc1
 clear hr1 hc1
 unfold laws_FnExactByHart.f at h
 have H := h
 clear h
 obtain ⟨t199, hA_, H⟩ := Option.bind_eq_some_iff.mp H
 try dsimp only at H
 have AE0 := Aside0.mk hA_
 clear hA_
 by_cases ci1 : t199 < 0
 ·rw [if_pos ci1] at H
  have ci1b0 : decide (t199 < 0) = true := decide_eq_true ci1
  clear ci1
  have HB := Aside0.mk (Below.refl w.heap.size w)
  have HZ := Aside0.mk (Nat.le_refl w.heap.size)
  clear H
  go_enter Try.func3, Try.ntmps3
  go_wp2_with (first | (go_at_call 14; (refine (laws_szEventS.calls _ _ l1 1048576 t199 _ ((Kd.C_below HR1.out HB.out)) (HC1.out) AE0.out).mono ?_); rintro e wx1 ⟨rfl, hd_⟩; have hb := hd_.below; clear hd_; have n_ := Aside0.mk (show _ ∧ w.heap.size ≤ wx1.heap.size from ⟨HZ.out, hb.size⟩); clear HZ; have HZ := n_; clear n_; have n_ := Aside0.mk (below_step HB.out hb); clear HB; have HB := n_; clear n_ hb))
  go_ret
  exact ⟨rfl, HB.out⟩
 rw [if_neg ci1] at H
 have ci1b0 : decide (t199 < 0) = false := decide_eq_false ci1
 clear ci1
 obtain ⟨t200, hA_, H⟩ := Option.bind_eq_some_iff.mp H
 try dsimp only at H
 have AE1 := Aside0.mk hA_
 clear hA_
 obtain ⟨t203, hA_, H⟩ := Option.bind_eq_some_iff.mp H
 try dsimp only at H
 have AE2 := Aside0.mk hA_
 clear hA_
 obtain ⟨t206, hA_, H⟩ := Option.bind_eq_some_iff.mp H
 try dsimp only at H
 have AE3 := Aside0.mk hA_
 clear hA_
 obtain ⟨t209, hA_, H⟩ := Option.bind_eq_some_iff.mp H
 try dsimp only at H
 have AE4 := Aside0.mk hA_
 clear hA_
 obtain ⟨t212, hA_, H⟩ := Option.bind_eq_some_iff.mp H
 try dsimp only at H
 have AE5 := Aside0.mk hA_
 clear hA_
 by_cases ci2 : t212 = true
 rotate_left
 ·rw [if_neg ci2] at H
  exact absurd H (by simp)
 rw [if_pos ci2] at H
 subst ci2
 obtain ⟨t213, hA_, H⟩ := Option.bind_eq_some_iff.mp H
 try dsimp only at H
 have AE6 := Aside0.mk hA_
 clear hA_
 obtain ⟨t216, hA_, H⟩ := Option.bind_eq_some_iff.mp H
 try dsimp only at H
 have AE7 := Aside0.mk hA_
 clear hA_
 by_cases ci3 : t216 = true
 rotate_left
 ·rw [if_neg ci3] at H
  exact absurd H (by simp)
 rw [if_pos ci3] at H
 subst ci3
 obtain ⟨⟨t217, t218⟩, hA_, H⟩ := Option.bind_eq_some_iff.mp H
 try dsimp only at H
 have AE8 := Aside0.mk hA_
 clear hA_
 by_cases ci4 : t217 < 0
 ·rw [if_pos ci4] at H
  exact absurd H (by simp)
 rw [if_neg ci4] at H
 have ci4b0 : decide (t217 < 0) = false := decide_eq_false ci4
 clear ci4
 obtain ⟨t219, hA_, H⟩ := Option.bind_eq_some_iff.mp H
 try dsimp only at H
 have AE9 := Aside0.mk hA_
 clear hA_
 by_cases ci5 : t219 = true
 rotate_left
 ·rw [if_neg ci5] at H
  exact absurd H (by simp)
 rw [if_pos ci5] at H
 subst ci5
 obtain ⟨⟨t220, t221⟩, hA_, H⟩ := Option.bind_eq_some_iff.mp H
 try dsimp only at H
 have AE10 := Aside0.mk hA_
 clear hA_
 obtain ⟨t222, hA_, H⟩ := Option.bind_eq_some_iff.mp H
 try dsimp only at H
 have AE11 := Aside0.mk hA_
 clear hA_
 by_cases ci6 : t222 < 0
 ·rw [if_pos ci6] at H
  exact absurd H (by simp)
 rw [if_neg ci6] at H
 have ci6b0 : decide (t222 < 0) = false := decide_eq_false ci6
 clear ci6
 by_cases ci7 : t222 = t220
 rotate_left
 ·rw [if_neg ci7] at H
  exact absurd H (by simp)
 rw [if_pos ci7] at H
 have ci7b0 : (t222 == t220) = true := beq_iff_eq.mpr ci7
 have ci7b1 : (t222 != t220) = false := bne_eq_false_iff_eq.mpr ci7
 clear ci7
 obtain ⟨t223, hA_, H⟩ := Option.bind_eq_some_iff.mp H
 try dsimp only at H
 have AE12 := Aside0.mk hA_
 clear hA_
 obtain ⟨t226, hA_, H⟩ := Option.bind_eq_some_iff.mp H
 try dsimp only at H
 have AE13 := Aside0.mk hA_
 clear hA_
 obtain ⟨t229, hA_, H⟩ := Option.bind_eq_some_iff.mp H
 try dsimp only at H
 have AE14 := Aside0.mk hA_
 clear hA_
 by_cases ci8 : t229 = true
 rotate_left
 ·rw [if_neg ci8] at H
  exact absurd H (by simp)
 rw [if_pos ci8] at H
 subst ci8
 obtain ⟨t230, hA_, H⟩ := Option.bind_eq_some_iff.mp H
 try dsimp only at H
 have AE15 := Aside0.mk hA_
 clear hA_
 by_cases ci9 : t230 < 0
 ·rw [if_pos ci9] at H
  exact absurd H (by simp)
 rw [if_neg ci9] at H
 have ci9b0 : decide (t230 < 0) = false := decide_eq_false ci9
 clear ci9
 by_cases ci10 : t230 = t220
 rotate_left
 ·rw [if_neg ci10] at H
  exact absurd H (by simp)
 rw [if_pos ci10] at H
 have ci10b0 : (t230 == t220) = true := beq_iff_eq.mpr ci10
 have ci10b1 : (t230 != t220) = false := bne_eq_false_iff_eq.mpr ci10
 clear ci10
 have HB := Aside0.mk (Below.refl w.heap.size w)
 have HZ := Aside0.mk (Nat.le_refl w.heap.size)
 clear H
 go_enter Try.func3, Try.ntmps3
 go_wp2_with (first | (go_at_call 14; (refine (laws_szEventS.calls _ _ l1 1048576 t199 _ ((Kd.C_below HR1.out HB.out)) (HC1.out) AE0.out).mono ?_); rintro e wx1 ⟨rfl, hd_⟩; have hb := hd_.below; clear hd_; have n_ := Aside0.mk (show _ ∧ w.heap.size ≤ wx1.heap.size from ⟨HZ.out, hb.size⟩); clear HZ; have HZ := n_; clear n_; have n_ := Aside0.mk (below_step HB.out hb); clear HB; have HB := n_; clear n_ hb))
 go_wp2_with (first | (go_at_call 16; (refine (laws_toEventS.calls k _ _ l1 t200 _ ((Kd.C_below HR1.out HB.out)) (HC1.out) AE1.out).mono ?_); rintro e wx2 ⟨v201, rfl, ho0, hb⟩; obtain ⟨AHO202, cHO202, e_⟩ := Kd.R_slice ho0; subst e_; have HO202 := Aside0.mk (iv_O rfl ho0 HB.out.size); clear ho0; have n_ := Aside0.mk (show _ ∧ wx1.heap.size ≤ wx2.heap.size from ⟨HZ.out, hb.size⟩); clear HZ; have HZ := n_; clear n_; have n_ := Aside0.mk (below_step HB.out hb); clear HB; have HB := n_; clear n_ hb))
 go_wp2_with (first | (go_at_call 15; (refine (spec_ByHart.calls k a0 _ _ t200 t203 _ ((Kd.R_reads' HO202.out).2.2) ((Kd.R_reads' HO202.out).2.1) AE2.out).mono ?_); rintro e wx3 ⟨v204, rfl, ho0, hb⟩; obtain ⟨AHO205, cHO205, e_⟩ := Kd.S_slice ho0; subst e_; have n0_ := Aside0.mk (Kd.R_below HO202.out hb); clear HO202; have HO202 := n0_; clear n0_; have HO205 := Aside0.mk (iv_S ho0 HB.out.size); clear ho0; have n_ := Aside0.mk (show _ ∧ wx2.heap.size ≤ wx3.heap.size from ⟨HZ.out, hb.size⟩); clear HZ; have HZ := n_; clear n_; have n_ := Aside0.mk (below_step HB.out hb); clear HB; have HB := n_; clear n_ hb))
 go_wp2_with (first | (go_at_call 16; (refine (laws_toEventS.calls k _ _ l1 t206 _ ((Kd.C_below HR1.out HB.out)) (HC1.out) AE3.out).mono ?_); rintro e wx4 ⟨v207, rfl, ho0, hb⟩; obtain ⟨AHO208, cHO208, e_⟩ := Kd.R_slice ho0; subst e_; have n0_ := Aside0.mk (Kd.R_below HO202.out hb); have n1_ := Aside0.mk (Kd.S_below HO205.out hb); clear HO202; clear HO205; have HO202 := n0_; have HO205 := n1_; clear n0_; clear n1_; have HO208 := Aside0.mk (iv_O rfl ho0 HB.out.size); clear ho0; have n_ := Aside0.mk (show _ ∧ wx3.heap.size ≤ wx4.heap.size from ⟨HZ.out, hb.size⟩); clear HZ; have HZ := n_; clear n_; have n_ := Aside0.mk (below_step HB.out hb); clear HB; have HB := n_; clear n_ hb))
 go_wp2_with (first | (go_at_call 17; (refine (impl_ByHart.calls k a0 _ _ t206 t209 _ ((Kd.R_reads' HO208.out).2.2) ((Kd.R_reads' HO208.out).2.1) AE4.out).mono ?_); rintro e wx5 ⟨v210, rfl, ho0, hb⟩; obtain ⟨AHO211, cHO211, e_⟩ := Kd.S_slice ho0; subst e_; have n0_ := Aside0.mk (Kd.R_below HO202.out hb); have n1_ := Aside0.mk (Kd.S_below HO205.out hb); have n2_ := Aside0.mk (Kd.R_below HO208.out hb); clear HO202; clear HO205; clear HO208; have HO202 := n0_; have HO205 := n1_; have HO208 := n2_; clear n0_; clear n1_; clear n2_; have HO211 := Aside0.mk (iv_S ho0 HB.out.size); clear ho0; have n_ := Aside0.mk (show _ ∧ wx4.heap.size ≤ wx5.heap.size from ⟨HZ.out, hb.size⟩); clear HZ; have HZ := n_; clear n_; have n_ := Aside0.mk (below_step HB.out hb); clear HB; have HB := n_; clear n_ hb))
 go_wp2_with (first | (go_at_call 18; (refine (laws_eqDidSS.calls k _ _ t209 _ _ t203 _ _ ((Kd.S_reads' HO211.out).2.2) ((Kd.S_reads' HO211.out).2.1) ((Kd.S_reads' HO205.out).2.2) ((Kd.S_reads' HO205.out).2.1) AE5.out).mono ?_); rintro e wx6 ⟨rfl, hb⟩; have n0_ := Aside0.mk (Kd.R_below HO202.out hb); have n1_ := Aside0.mk (Kd.S_below HO205.out hb); have n2_ := Aside0.mk (Kd.R_below HO208.out hb); have n3_ := Aside0.mk (Kd.S_below HO211.out hb); clear HO202; clear HO205; clear HO208; clear HO211; have HO202 := n0_; have HO205 := n1_; have HO208 := n2_; have HO211 := n3_; clear n0_; clear n1_; clear n2_; clear n3_; have n_ := Aside0.mk (show _ ∧ wx5.heap.size ≤ wx6.heap.size from ⟨HZ.out, hb.size⟩); clear HZ; have HZ := n_; clear n_; have n_ := Aside0.mk (below_step HB.out hb); clear HB; have HB := n_; clear n_ hb))
 go_wp2_with (first | (go_at_call 16; (refine (laws_toEventS.calls k _ _ l1 t213 _ ((Kd.C_below HR1.out HB.out)) (HC1.out) AE6.out).mono ?_); rintro e wx7 ⟨v214, rfl, ho0, hb⟩; obtain ⟨AHO215, cHO215, e_⟩ := Kd.R_slice ho0; subst e_; have n0_ := Aside0.mk (Kd.R_below HO202.out hb); have n1_ := Aside0.mk (Kd.S_below HO205.out hb); have n2_ := Aside0.mk (Kd.R_below HO208.out hb); have n3_ := Aside0.mk (Kd.S_below HO211.out hb); clear HO202; clear HO205; clear HO208; clear HO211; have HO202 := n0_; have HO205 := n1_; have HO208 := n2_; have HO211 := n3_; clear n0_; clear n1_; clear n2_; clear n3_; have HO215 := Aside0.mk (iv_O rfl ho0 HB.out.size); clear ho0; have n_ := Aside0.mk (show _ ∧ wx6.heap.size ≤ wx7.heap.size from ⟨HZ.out, hb.size⟩); clear HZ; have HZ := n_; clear n_; have n_ := Aside0.mk (below_step HB.out hb); clear HB; have HB := n_; clear n_ hb))
 go_wp2_with (first | (go_at_call 19; (refine (laws_eqEventS.calls k _ _ t206 _ _ t213 _ _ ((Kd.R_reads' HO208.out).2.2) ((Kd.R_reads' HO208.out).2.1) ((Kd.R_reads' HO215.out).2.2) ((Kd.R_reads' HO215.out).2.1) AE7.out).mono ?_); rintro e wx8 ⟨rfl, hb⟩; have n0_ := Aside0.mk (Kd.R_below HO202.out hb); have n1_ := Aside0.mk (Kd.S_below HO205.out hb); have n2_ := Aside0.mk (Kd.R_below HO208.out hb); have n3_ := Aside0.mk (Kd.S_below HO211.out hb); have n4_ := Aside0.mk (Kd.R_below HO215.out hb); clear HO202; clear HO205; clear HO208; clear HO211; clear HO215; have HO202 := n0_; have HO205 := n1_; have HO208 := n2_; have HO211 := n3_; have HO215 := n4_; clear n0_; clear n1_; clear n2_; clear n3_; clear n4_; have n_ := Aside0.mk (show _ ∧ wx7.heap.size ≤ wx8.heap.size from ⟨HZ.out, hb.size⟩); clear HZ; have HZ := n_; clear n_; have n_ := Aside0.mk (below_step HB.out hb); clear HB; have HB := n_; clear n_ hb))
 go_wp2_with (first | (go_at_call 20; (refine (laws_markEventS.calls k _ (.slice AHO208 t206.length cHO208) t206 1 t217 t218 w _ HB.out (HO208.out) AE8.out).mono ?_); rintro e wx9 ⟨rfl, hy0, hb, hkp⟩; have n0_ := Aside0.mk (Kd.R_kept HO202.out hkp (fun k_ h1_ h2_ => (by have hz_ := HZ.out; have a_ := h1_.1; have b_ := h1_.2.1; have c_ := h2_.1; have d_ := h2_.2.1; clear h1_ h2_; omega))); have n1_ := Aside0.mk (Kd.S_kept HO205.out hkp (fun k_ h1_ h2_ => (by have hz_ := HZ.out; have a_ := h1_.1; have b_ := h1_.2.1; have c_ := h2_.1; have d_ := h2_.2.1; clear h1_ h2_; omega))); have n2_ := Aside0.mk (Kd.S_kept HO211.out hkp (fun k_ h1_ h2_ => (by have hz_ := HZ.out; have a_ := h1_.1; have b_ := h1_.2.1; have c_ := h2_.1; have d_ := h2_.2.1; clear h1_ h2_; omega))); have n3_ := Aside0.mk (Kd.R_kept HO215.out hkp (fun k_ h1_ h2_ => (by have hz_ := HZ.out; have a_ := h1_.1; have b_ := h1_.2.1; have c_ := h2_.1; have d_ := h2_.2.1; clear h1_ h2_; omega))); clear HO202; clear HO205; clear HO211; clear HO215; have HO202 := n0_; have HO205 := n1_; have HO211 := n2_; have HO215 := n3_; clear n0_; clear n1_; clear n2_; clear n3_; have n_ := Aside0.mk (Kd.R_reok rfl hy0 (fun k_ e_ => HO208.out.1 k_ e_)); have hl_ := (Kd.R_reads' n_.out).1; rw [hl_] at n_ ⊢; clear hl_ HO208; have HO208 := n_; clear n_; have n_ := Aside0.mk (show _ ∧ wx8.heap.size ≤ wx9.heap.size from ⟨HZ.out, hkp.1⟩); clear HZ; have HZ := n_; clear n_; have n_ := Aside0.mk hb; clear HB; have HB := n_; clear n_ hb hkp))
 go_wp2_with (first | (go_at_call 18; (refine (laws_eqDidSS.calls k _ _ t209 _ _ t203 _ _ ((Kd.S_reads' HO211.out).2.2) ((Kd.S_reads' HO211.out).2.1) ((Kd.S_reads' HO205.out).2.2) ((Kd.S_reads' HO205.out).2.1) AE9.out).mono ?_); rintro e wx10 ⟨rfl, hb⟩; have n0_ := Aside0.mk (Kd.R_below HO202.out hb); have n1_ := Aside0.mk (Kd.S_below HO205.out hb); have n2_ := Aside0.mk (Kd.R_below HO208.out hb); have n3_ := Aside0.mk (Kd.S_below HO211.out hb); have n4_ := Aside0.mk (Kd.R_below HO215.out hb); clear HO202; clear HO205; clear HO208; clear HO211; clear HO215; have HO202 := n0_; have HO205 := n1_; have HO208 := n2_; have HO211 := n3_; have HO215 := n4_; clear n0_; clear n1_; clear n2_; clear n3_; clear n4_; have n_ := Aside0.mk (show _ ∧ wx9.heap.size ≤ wx10.heap.size from ⟨HZ.out, hb.size⟩); clear HZ; have HZ := n_; clear n_; have n_ := Aside0.mk (below_step HB.out hb); clear HB; have HB := n_; clear n_ hb))
 go_wp2_with (first | (go_at_call 21; (refine (laws_markDidSS.calls k _ (.slice AHO211 t209.length cHO211) t209 1 t220 t221 w _ HB.out (HO211.out) AE10.out).mono ?_); rintro e wx11 ⟨rfl, hy0, hb, hkp⟩; have n0_ := Aside0.mk (Kd.R_kept HO202.out hkp (fun k_ h1_ h2_ => (by have hz_ := HZ.out; have a_ := h1_.1; have b_ := h1_.2.1; have c_ := h2_.1; have d_ := h2_.2.1; clear h1_ h2_; omega))); have n1_ := Aside0.mk (Kd.S_kept HO205.out hkp (fun k_ h1_ h2_ => (by have hz_ := HZ.out; have a_ := h1_.1; have b_ := h1_.2.1; have c_ := h2_.1; have d_ := h2_.2.1; clear h1_ h2_; omega))); have n2_ := Aside0.mk (Kd.R_kept HO208.out hkp (fun k_ h1_ h2_ => (by have hz_ := HZ.out; have a_ := h1_.1; have b_ := h1_.2.1; have c_ := h2_.1; have d_ := h2_.2.1; clear h1_ h2_; omega))); have n3_ := Aside0.mk (Kd.R_kept HO215.out hkp (fun k_ h1_ h2_ => (by have hz_ := HZ.out; have a_ := h1_.1; have b_ := h1_.2.1; have c_ := h2_.1; have d_ := h2_.2.1; clear h1_ h2_; omega))); clear HO202; clear HO205; clear HO208; clear HO215; have HO202 := n0_; have HO205 := n1_; have HO208 := n2_; have HO215 := n3_; clear n0_; clear n1_; clear n2_; clear n3_; have n_ := Aside0.mk (hy0); have hl_ := (Kd.S_reads' n_.out).1; rw [hl_] at n_ ⊢; clear hl_ HO211; have HO211 := n_; clear n_; have n_ := Aside0.mk (show _ ∧ wx10.heap.size ≤ wx11.heap.size from ⟨HZ.out, hkp.1⟩); clear HZ; have HZ := n_; clear n_; have n_ := Aside0.mk hb; clear HB; have HB := n_; clear n_ hb hkp))
 go_wp2_with (first | (go_at_call 22; (refine (laws_heldDidSS.calls k _ _ t221 1 t222 _ ((Kd.S_reads' HO211.out).2.2) ((Kd.S_reads' HO211.out).2.1) AE11.out).mono ?_); rintro e wx12 ⟨rfl, hd_⟩; have hb := hd_.below; clear hd_; have n0_ := Aside0.mk (Kd.R_below HO202.out hb); have n1_ := Aside0.mk (Kd.S_below HO205.out hb); have n2_ := Aside0.mk (Kd.R_below HO208.out hb); have n3_ := Aside0.mk (Kd.S_below HO211.out hb); have n4_ := Aside0.mk (Kd.R_below HO215.out hb); clear HO202; clear HO205; clear HO208; clear HO211; clear HO215; have HO202 := n0_; have HO205 := n1_; have HO208 := n2_; have HO211 := n3_; have HO215 := n4_; clear n0_; clear n1_; clear n2_; clear n3_; clear n4_; have n_ := Aside0.mk (show _ ∧ wx11.heap.size ≤ wx12.heap.size from ⟨HZ.out, hb.size⟩); clear HZ; have HZ := n_; clear n_; have n_ := Aside0.mk (below_step HB.out hb); clear HB; have HB := n_; clear n_ hb))
 go_wp2_with (first | (go_at_call 16; (refine (laws_toEventS.calls k _ _ l1 t223 _ ((Kd.C_below HR1.out HB.out)) (HC1.out) AE12.out).mono ?_); rintro e wx13 ⟨v224, rfl, ho0, hb⟩; obtain ⟨AHO225, cHO225, e_⟩ := Kd.R_slice ho0; subst e_; have n0_ := Aside0.mk (Kd.R_below HO202.out hb); have n1_ := Aside0.mk (Kd.S_below HO205.out hb); have n2_ := Aside0.mk (Kd.R_below HO208.out hb); have n3_ := Aside0.mk (Kd.S_below HO211.out hb); have n4_ := Aside0.mk (Kd.R_below HO215.out hb); clear HO202; clear HO205; clear HO208; clear HO211; clear HO215; have HO202 := n0_; have HO205 := n1_; have HO208 := n2_; have HO211 := n3_; have HO215 := n4_; clear n0_; clear n1_; clear n2_; clear n3_; clear n4_; have HO225 := Aside0.mk (iv_O rfl ho0 HB.out.size); clear ho0; have n_ := Aside0.mk (show _ ∧ wx12.heap.size ≤ wx13.heap.size from ⟨HZ.out, hb.size⟩); clear HZ; have HZ := n_; clear n_; have n_ := Aside0.mk (below_step HB.out hb); clear HB; have HB := n_; clear n_ hb))
 go_wp2_with (first | (go_at_call 17; (refine (impl_ByHart.calls k a0 _ _ t223 t226 _ ((Kd.R_reads' HO225.out).2.2) ((Kd.R_reads' HO225.out).2.1) AE13.out).mono ?_); rintro e wx14 ⟨v227, rfl, ho0, hb⟩; obtain ⟨AHO228, cHO228, e_⟩ := Kd.S_slice ho0; subst e_; have n0_ := Aside0.mk (Kd.R_below HO202.out hb); have n1_ := Aside0.mk (Kd.S_below HO205.out hb); have n2_ := Aside0.mk (Kd.R_below HO208.out hb); have n3_ := Aside0.mk (Kd.S_below HO211.out hb); have n4_ := Aside0.mk (Kd.R_below HO215.out hb); have n5_ := Aside0.mk (Kd.R_below HO225.out hb); clear HO202; clear HO205; clear HO208; clear HO211; clear HO215; clear HO225; have HO202 := n0_; have HO205 := n1_; have HO208 := n2_; have HO211 := n3_; have HO215 := n4_; have HO225 := n5_; clear n0_; clear n1_; clear n2_; clear n3_; clear n4_; clear n5_; have HO228 := Aside0.mk (iv_S ho0 HB.out.size); clear ho0; have n_ := Aside0.mk (show _ ∧ wx13.heap.size ≤ wx14.heap.size from ⟨HZ.out, hb.size⟩); clear HZ; have HZ := n_; clear n_; have n_ := Aside0.mk (below_step HB.out hb); clear HB; have HB := n_; clear n_ hb))
 go_wp2_with (first | (go_at_call 18; (refine (laws_eqDidSS.calls k _ _ t226 _ _ t203 _ _ ((Kd.S_reads' HO228.out).2.2) ((Kd.S_reads' HO228.out).2.1) ((Kd.S_reads' HO205.out).2.2) ((Kd.S_reads' HO205.out).2.1) AE14.out).mono ?_); rintro e wx15 ⟨rfl, hb⟩; have n0_ := Aside0.mk (Kd.R_below HO202.out hb); have n1_ := Aside0.mk (Kd.S_below HO205.out hb); have n2_ := Aside0.mk (Kd.R_below HO208.out hb); have n3_ := Aside0.mk (Kd.S_below HO211.out hb); have n4_ := Aside0.mk (Kd.R_below HO215.out hb); have n5_ := Aside0.mk (Kd.R_below HO225.out hb); have n6_ := Aside0.mk (Kd.S_below HO228.out hb); clear HO202; clear HO205; clear HO208; clear HO211; clear HO215; clear HO225; clear HO228; have HO202 := n0_; have HO205 := n1_; have HO208 := n2_; have HO211 := n3_; have HO215 := n4_; have HO225 := n5_; have HO228 := n6_; clear n0_; clear n1_; clear n2_; clear n3_; clear n4_; clear n5_; clear n6_; have n_ := Aside0.mk (show _ ∧ wx14.heap.size ≤ wx15.heap.size from ⟨HZ.out, hb.size⟩); clear HZ; have HZ := n_; clear n_; have n_ := Aside0.mk (below_step HB.out hb); clear HB; have HB := n_; clear n_ hb))
 go_wp2_with (first | (go_at_call 22; (refine (laws_heldDidSS.calls k _ _ t221 1 t230 _ ((Kd.S_reads' HO211.out).2.2) ((Kd.S_reads' HO211.out).2.1) AE15.out).mono ?_); rintro e wx16 ⟨rfl, hd_⟩; have hb := hd_.below; clear hd_; have n0_ := Aside0.mk (Kd.R_below HO202.out hb); have n1_ := Aside0.mk (Kd.S_below HO205.out hb); have n2_ := Aside0.mk (Kd.R_below HO208.out hb); have n3_ := Aside0.mk (Kd.S_below HO211.out hb); have n4_ := Aside0.mk (Kd.R_below HO215.out hb); have n5_ := Aside0.mk (Kd.R_below HO225.out hb); have n6_ := Aside0.mk (Kd.S_below HO228.out hb); clear HO202; clear HO205; clear HO208; clear HO211; clear HO215; clear HO225; clear HO228; have HO202 := n0_; have HO205 := n1_; have HO208 := n2_; have HO211 := n3_; have HO215 := n4_; have HO225 := n5_; have HO228 := n6_; clear n0_; clear n1_; clear n2_; clear n3_; clear n4_; clear n5_; clear n6_; have n_ := Aside0.mk (show _ ∧ wx15.heap.size ≤ wx16.heap.size from ⟨HZ.out, hb.size⟩); clear HZ; have HZ := n_; clear n_; have n_ := Aside0.mk (below_step HB.out hb); clear HB; have HB := n_; clear n_ hb))
 go_ret
 exact ⟨rfl, HB.out⟩

/-- THE ONE PURE STATEMENT of laws_FnExactByHart: yours. -/
def laws_FnExactByHart.Pure : Prop := ∀ (a0 : Int) (l1 : List (S76)), (Lit.int .i64 a0).wf = true → (l1.length ≤ maxLen ∧ ∀ y1_ ∈ l1, ((Lit.int .i64 y1_.f0).wf = true ∧ ((Lit.int .i64 y1_.f1).wf = true ∧ ((Lit.int .i64 y1_.f2).wf = true ∧ ((Lit.int .i64 y1_.f3).wf = true ∧ (Lit.int .i64 y1_.f4).wf = true))))) → ∃ k, laws_FnExactByHart.f k a0 l1 = some true
theorem laws_FnExactByHart.walk (P : laws_FnExactByHart.Pure) (a0 : Int) (A1 : Option Addr) (c1 : Nat) (l1 : List (S76)) (w : World) (hr1 : Kd.C k76 w A1 l1.length l1) (hc1 : l1.length ≤ c1) (g0 : (Lit.int .i64 a0).wf = true) (g1 : (l1.length ≤ maxLen ∧ ∀ y1_ ∈ l1, ((Lit.int .i64 y1_.f0).wf = true ∧ ((Lit.int .i64 y1_.f1).wf = true ∧ ((Lit.int .i64 y1_.f2).wf = true ∧ ((Lit.int .i64 y1_.f3).wf = true ∧ (Lit.int .i64 y1_.f4).wf = true)))))) :
  Calls Try.prog 3 #[.int .i64 a0, .slice A1 l1.length c1] w fun e w' => e = .returned (.bool true) ∧ Below w.heap.size w w' := by
 obtain ⟨k, h⟩ := P a0 l1 g0 g1
 exact laws_FnExactByHart.calls k a0 A1 c1 l1 true w hr1 hc1 rfl h

end Go.Proofs.Ytbbieaglfgipnaa.PFnExactByHart
