-- made by wip/tools/myprint.py out of the seat's translation
import Derived.Test.YtnekcbajadnldaaPFnMemTextsx0
import Derived.Test.YtnekcbajadnldaaPFnMemTextsx4
import Derived.Test.YtnekcbajadnldaaPFnMemTextsx5
namespace Go.Proofs.Ytnekcbajadnldaa.PFnMemTexts
open Go.RowKit Go.Proofs.YtnekcbajadnldaaW.PrintWords Go.Proofs.YtnekcbajadnldaaW.PrintLast Go.Proofs.YtnekcbajadnldaaW.PrintMore
attribute [local go_sem] max2_int min2_int max_two min_two max_three min_three max_four min_four   -- for this text's walks alone
set_option linter.unusedVariables false
set_option linter.unusedSimpArgs false
abbrev zq6_0 : Array Bool := #[false, false, false, false, false, false, false, false, false]
abbrev zq6_1 : Array Bool := #[true, false, false, false, false, false, false, false, false]
abbrev zq6_2 : Array Bool := #[true, true, false, false, false, false, false, false, false]
abbrev zq6_3 : Array Bool := #[true, true, true, false, false, false, false, false, false]
abbrev zq6_4 : Array Bool := #[true, true, true, false, true, false, false, false, false]
abbrev zq6_5 : Array Bool := #[true, true, true, false, true, true, false, false, false]
abbrev zq6_6 : Array Bool := #[true, true, true, false, true, true, true, false, false]
abbrev zq6_7 : Array Bool := #[true, true, true, true, true, true, true, false, false]
abbrev zq6_8 : Array Bool := #[true, true, true, true, true, true, true, true, false]
abbrev zq6_9 : Array Bool := #[true, true, true, true, true, true, true, true, true]
theorem zA6 {p : Prop} [Decidable p] (h : decide p = true := by first | (with_reducible assumption) | assumption) : p := of_decide_eq_true h
theorem zT6 {p : Prop} (h : p := by (try simp only [List.map_toArray, List.map_cons, List.map_nil]); first | done | rfl | (simp only [List.length_drop, List.length_take]; rfl)) : p := h
theorem zC6 {p q : Prop} (x : q) (h : q → p := by intro h; repeat (first | exact h | (with_reducible refine Kd.C_alloc ?_ _) | (with_reducible refine Kd.C_drewN ?_ _) | (with_reducible refine Kd.C_drew ?_))) : p := h x
theorem zV6 {a b : Act} (h : a = b := by simp only [Act.put, List.setIfInBounds_toArray, List.set_cons_zero, List.set_cons_succ, i64_w, i32_w]; rfl) : a = b := h
theorem zE6 {p : Prop} (h : p := by first | rfl | (simp [errW_none, errW_some] <;> rfl) | (simp [*, errW_none, errW_some] <;> rfl)) : p := h
theorem zB6_0 {p : Prop} (h : p := by repeat (first | (with_reducible first | exact HB.out | apply below_alloc | apply pw_below_drewN | apply below_drew1) | exact HB.out)) : p := h

/-! ### spec_ChangedText: function 58 -/
mutual
def spec_ChangedText.l0 : Nat → List Int → List Int → ByteArray → Int → Option (ByteArray)
 | 0, _, _, _, _ => none
 | k + 1, x0, x1, x5, x6 => if x6 < 24 then ((spec_l1Words.f k x0 24).bind fun t295 => (if t295 = true then ((spec_l1Words.f k x1 24).bind fun t296 => (spec_ChangedText.j1 k x0 x1 x5 x6 t296)) else (spec_ChangedText.j1 k x0 x1 x5 x6 false))) else (spec_ChangedText.j1 k x0 x1 x5 x6 false)
def spec_ChangedText.j1 : Nat → List Int → List Int → ByteArray → Int → Bool → Option (ByteArray)
 | 0, _, _, _, _, _ => none
 | k + 1, x0, x1, x5, x6, x16 => if x16 = true then (if 0 ≤ x6 then (if x6 < (x0.length : Int) then (if x6 < (x1.length : Int) then (if (rd x0 x6) = (rd x1 x6) then (spec_ChangedText.l0 k x0 x1 x5 (wrap64 (x6 + 1))) else ((spec_l16Digits.f k x6).bind fun t299 => (if x5.size + t299.size ≤ 9223372036854775807 then (if (x5 ++ t299).size + 1 ≤ 9223372036854775807 then ((spec_l16Digits.f k (rd x0 x6)).bind fun t301 => (if ((x5 ++ t299) ++ (⟨#[58]⟩ : ByteArray)).size + t301.size ≤ 9223372036854775807 then (if (((x5 ++ t299) ++ (⟨#[58]⟩ : ByteArray)) ++ t301).size + 1 ≤ 9223372036854775807 then ((spec_l16Digits.f k (rd x1 x6)).bind fun t303 => (if ((((x5 ++ t299) ++ (⟨#[58]⟩ : ByteArray)) ++ t301) ++ (⟨#[62]⟩ : ByteArray)).size + t303.size ≤ 9223372036854775807 then (if (((((x5 ++ t299) ++ (⟨#[58]⟩ : ByteArray)) ++ t301) ++ (⟨#[62]⟩ : ByteArray)) ++ t303).size + 1 ≤ 9223372036854775807 then (spec_ChangedText.l0 k x0 x1 ((((((x5 ++ t299) ++ (⟨#[58]⟩ : ByteArray)) ++ t301) ++ (⟨#[62]⟩ : ByteArray)) ++ t303) ++ (⟨#[10]⟩ : ByteArray)) (wrap64 (x6 + 1))) else (none)) else (none))) else (none)) else (none))) else (none)) else (none)))) else (none)) else (none)) else (none)) else (some x5)
end
def spec_ChangedText.f (k : Nat) (l0 : List Int) (l1 : List Int) : Option (ByteArray) := spec_ChangedText.l0 k l0 l1 (⟨#[]⟩ : ByteArray) 0
theorem spec_ChangedText.mono_l : ∀ k, (∀ y0 y1 y2 y3, LeO (spec_ChangedText.l0 k y0 y1 y2 y3) (spec_ChangedText.l0 (k + 1) y0 y1 y2 y3)) ∧ (∀ y0 y1 y2 y3 y4, LeO (spec_ChangedText.j1 k y0 y1 y2 y3 y4) (spec_ChangedText.j1 (k + 1) y0 y1 y2 y3 y4))
 | 0 => ⟨fun _ _ _ _ r h => by simp [spec_ChangedText.l0] at h, fun _ _ _ _ _ r h => by simp [spec_ChangedText.j1] at h⟩
 | k + 1 => by
  obtain ⟨ih0, ih1⟩ := spec_ChangedText.mono_l k
  refine ⟨?_, ?_⟩
  ·intro y0 y1 y2 y3
   unfold spec_ChangedText.l0
   repeat' first
   | (with_reducible exact ih0 _ _ _ _)
   | (with_reducible exact ih1 _ _ _ _ _)
   | (with_reducible exact spec_l16Digits.mono _ _)
   | (with_reducible exact spec_l1Words.mono _ _ _)
   | (with_reducible exact LeO.refl _)
   | (with_reducible exact LeO.none _)
   | (with_reducible refine LeO.ite ?_ ?_)
   | (with_reducible refine LeO.bind ?_ (fun _ => ?_))
   | exact ih0 _ _ _ _
   | exact ih1 _ _ _ _ _
   | exact spec_l16Digits.mono _ _
   | exact spec_l1Words.mono _ _ _
   | exact LeO.none _
   | refine LeO.ite ?_ ?_
   | refine LeO.bind ?_ (fun _ => ?_)
  ·intro y0 y1 y2 y3 y4
   unfold spec_ChangedText.j1
   repeat' first
   | (with_reducible exact ih0 _ _ _ _)
   | (with_reducible exact ih1 _ _ _ _ _)
   | (with_reducible exact spec_l16Digits.mono _ _)
   | (with_reducible exact spec_l1Words.mono _ _ _)
   | (with_reducible exact LeO.refl _)
   | (with_reducible exact LeO.none _)
   | (with_reducible refine LeO.ite ?_ ?_)
   | (with_reducible refine LeO.bind ?_ (fun _ => ?_))
   | exact ih0 _ _ _ _
   | exact ih1 _ _ _ _ _
   | exact spec_l16Digits.mono _ _
   | exact spec_l1Words.mono _ _ _
   | exact LeO.none _
   | refine LeO.ite ?_ ?_
   | refine LeO.bind ?_ (fun _ => ?_)
theorem spec_ChangedText.mono : ∀ a0 a1 k, LeO (spec_ChangedText.f k a0 a1) (spec_ChangedText.f (k + 1) a0 a1) := by
 intro a0 a1 k
 obtain ⟨ih0, ih1⟩ := spec_ChangedText.mono_l k
 unfold spec_ChangedText.f
 repeat' first
   | (with_reducible exact ih0 _ _ _ _)
   | (with_reducible exact ih1 _ _ _ _ _)
   | (with_reducible exact spec_l16Digits.mono _ _)
   | (with_reducible exact spec_l1Words.mono _ _ _)
   | (with_reducible exact LeO.refl _)
   | (with_reducible exact LeO.none _)
   | (with_reducible refine LeO.ite ?_ ?_)
   | (with_reducible refine LeO.bind ?_ (fun _ => ?_))
   | exact ih0 _ _ _ _
   | exact ih1 _ _ _ _ _
   | exact spec_l16Digits.mono _ _
   | exact spec_l1Words.mono _ _ _
   | exact LeO.none _
   | refine LeO.ite ?_ ?_
   | refine LeO.bind ?_ (fun _ => ?_)
def spec_ChangedText.T5 : Bool × List (List Nat × List Nat) := (true, [([], []), ([], []), ([0, 1], [0, 1]), ([2], [2]), ([], []), ([], []), ([4, 5], [4, 5]), ([6], [6]), ([3, 7], [3, 7])])
def spec_ChangedText.B5 : List Nat := [0, 0, 3, 7, 0, 0, 48, 112, 255]
theorem spec_ChangedText.tab5 : rtab .any (opsOf Try.f58 5) = spec_ChangedText.T5 := by kernel_rfl
theorem spec_ChangedText.bits5 : waitsOk spec_ChangedText.T5.2 spec_ChangedText.B5 = true := by kernel_rfl
def spec_ChangedText.T6 : Bool × List (List Nat × List Nat) := (true, [([], []), ([], []), ([1], [1]), ([0, 2], [0, 2]), ([3], [3]), ([], []), ([], []), ([5, 6], [5, 6]), ([7], [7]), ([8, 2], [8]), ([4, 9], [4, 9]), ([10], [10]), ([], []), ([], []), ([12, 13], [12, 13]), ([14], [14]), ([15, 9], [15]), ([11, 16], [11, 16]), ([17], [17]), ([18, 16, 0, 1, 2, 3, 4, 5, 6, 7, 8, 9, 10, 11, 12, 13, 14, 15, 16, 17, 18], [0, 18])])
def spec_ChangedText.B6 : List Nat := [0, 0, 2, 7, 15, 0, 0, 96, 224, 486, 1023, 2047, 0, 0, 12288, 28672, 62438, 131071, 262143, 524287]
theorem spec_ChangedText.tab6 : rtab .any (opsOf Try.f58 6) = spec_ChangedText.T6 := by kernel_rfl
theorem spec_ChangedText.bits6 : waitsOk spec_ChangedText.T6.2 spec_ChangedText.B6 = true := by kernel_rfl
set_option maxHeartbeats 8000000 in
set_option maxRecDepth 100000 in
theorem spec_ChangedText.calls (k : Nat) (A0 : Option Addr) (c0 : Nat) (l0 : List Int) (A1 : Option Addr) (c1 : Nat) (l1 : List Int) (r : ByteArray) (w : World) (hr0 : Kd.C (Kd.int .i64) w A0 l0.length l0) (hc0 : l0.length ≤ c0) (hr1 : Kd.C (Kd.int .i64) w A1 l1.length l1) (hc1 : l1.length ≤ c1) (h : spec_ChangedText.f k l0 l1 = some r) :
  Calls Try.prog 58 #[.slice A0 l0.length c0, .slice A1 l1.length c1] w fun e w' => e = .returned (.string r) ∧ Below w.heap.size w w' := by
 have HR0 := Aside0.mk hr0
 have HC0 := Aside0.mk hc0
 clear hr0 hc0
 have HR1 := Aside0.mk hr1
 have HC1 := Aside0.mk hc1
 clear hr1 hc1
 have HB := Aside0.mk (Below.refl w.heap.size w)
 have H : (spec_ChangedText.l0 k l0 l1 (⟨#[]⟩ : ByteArray) 0) = some r := h
 clear h
 have H' := Aside0.mk H
 clear H
 go_enter Try.func58, Try.ntmps58
 go_wp2
 go_loopg [5, 6] k (fun kq v5 v6 w' => ∃ (x5_1 : ByteArray) (x6_1 : Int), v5 = .string x5_1 ∧ v6 = .int .i64 x6_1 ∧ Aside0 (spec_ChangedText.l0 kq l0 l1 x5_1 x6_1 = some r) ∧ Aside0 (kq ≤ k) ∧ Aside0 (Below w.heap.size w w'))
 case atStart => exact ⟨((⟨#[]⟩ : ByteArray)), (0), (by first | rfl | (simp; done) | (simp [*]; done)), (by first | rfl | (simp; done) | (simp [*]; done)), H', ⟨Nat.le_refl _⟩, ⟨zB6_0⟩⟩
 case round =>
  clear H'
  try clear c1
  try clear p2
  obtain ⟨x5_1, x6_1, rfl, rfl, HA, HK1, HB⟩ := hrel
  cases gk with
  | zero => exact absurd HA.out (by simp [spec_ChangedText.l0])
  | succ k1 =>
   have H := HA.out
   clear HA
   simp only [spec_ChangedText.l0] at H
   have HC3 := Aside0.mk H
   clear H
   go_upto_region 3 with (fail)
   go_cut [16] (fun v16 wc => ∃ (kq : Nat) (x16_2 : Bool), v16 = .bool x16_2 ∧ Aside0 (spec_ChangedText.j1 kq l0 l1 x5_1 x6_1 x16_2 = some r) ∧ Aside0 (kq ≤ k1) ∧ Aside0 (Below w.heap.size w wc))
   case first =>
    have H := HC3.out
    clear HC3
    by_cases c4 : x6_1 < 24
    rotate_left
    ·rw [if_neg c4] at H
     have c4b0 : decide (x6_1 < 24) = false := decide_eq_false c4
     clear c4
     (first | rw [c4b0] | (simp only [i64_w, i32_w]; rw [c4b0]) | skip)
     have H' := Aside0.mk H
     clear H
     go_wp2
     go_meet
     case rel => exact ⟨_, (false), (by first | rfl | (simp; done) | (simp [*]; done)), H', ⟨by have := HK1.out; first | omega | exact Nat.le_refl _⟩, ⟨zB6_0⟩⟩
    rw [if_pos c4] at H
    have c4b0 : decide (x6_1 < 24) = true := decide_eq_true c4
    clear c4
    (first | rw [c4b0] | (simp only [i64_w, i32_w]; rw [c4b0]) | skip)
    replace H := Option.bind_eq_some_iff.mp H
    obtain ⟨t295, A50, H⟩ := H
    replace H : (if t295 = true then ((spec_l1Words.f k1 l1 24).bind fun t296 => (spec_ChangedText.j1 k1 l0 l1 x5_1 x6_1 t296)) else (spec_ChangedText.j1 k1 l0 l1 x5_1 x6_1 false)) = some r := H
    have A5 := Aside0.mk A50
    clear A50
    by_cases c6 : t295 = true
    rotate_left
    ·replace c6 := Bool.eq_false_iff.mpr c6
     subst c6
     have H1 : (spec_ChangedText.j1 k1 l0 l1 x5_1 x6_1 false) = some r := by rw [if_neg (show ¬ (false = true) by decide)] at H; exact H
     clear H
     have H := H1
     clear H1
     have H' := Aside0.mk H
     clear H
     go_wp2_with (first | (go_at_call 76; (with_reducible refine (spec_l1Words.calls k1 _ _ l0 24 false _ ?side1 ?side2 A5.out).mono ?_); (case side1 => exact zC6 (Kd.C_below HR0.out HB.out)); (case side2 => exact HC0.out); rintro e w' ⟨rfl, ⟨nd, rfl⟩⟩))
     go_meet
     case rel => exact ⟨_, (false), (by first | rfl | (simp; done) | (simp [*]; done)), H', ⟨by have := HK1.out; first | omega | exact Nat.le_refl _⟩, ⟨zB6_0⟩⟩
    subst c6
    have H1 : ((spec_l1Words.f k1 l1 24).bind fun t296 => (spec_ChangedText.j1 k1 l0 l1 x5_1 x6_1 t296)) = some r := by rw [if_pos rfl] at H; exact H
    clear H
    have H := H1
    clear H1
    replace H := Option.bind_eq_some_iff.mp H
    obtain ⟨t296, A70, H⟩ := H
    replace H : (spec_ChangedText.j1 k1 l0 l1 x5_1 x6_1 t296) = some r := H
    have A7 := Aside0.mk A70
    clear A70
    have H' := Aside0.mk H
    clear H
    go_wp2_with (first | (go_at_call 76; (with_reducible refine (spec_l1Words.calls k1 _ _ l0 24 true _ ?side1 ?side2 A5.out).mono ?_); (case side1 => exact zC6 (Kd.C_below HR0.out HB.out)); (case side2 => exact HC0.out); rintro e w' ⟨rfl, ⟨nd, rfl⟩⟩) | (go_at_call 76; (with_reducible refine (spec_l1Words.calls k1 _ _ l1 24 t296 _ ?side1 ?side2 A7.out).mono ?_); (case side1 => repeat (first | exact (Kd.C_below HR1.out (zB6_0)) | (with_reducible refine Kd.C_alloc ?_ _) | (with_reducible refine Kd.C_drewN ?_ _) | (with_reducible refine Kd.C_drew ?_))); (case side2 => exact HC1.out); rintro e w' ⟨rfl, ⟨nd, rfl⟩⟩))
    go_meet
    case rel => exact ⟨_, (t296), (by first | rfl | (simp; done) | (simp [*]; done)), H', ⟨by have := HK1.out; first | omega | exact Nat.le_refl _⟩, ⟨zB6_0⟩⟩
   case rest =>
    clear HC3
    try clear c1
    try clear p2
    try clear c4
    try clear c4b0
    try clear c5
    try clear c6
    try clear p2
    obtain ⟨kq, x16_2, rfl, HA, HJ2, HB⟩ := hcut
    cases kq with
    | zero => exact absurd HA.out (by simp [spec_ChangedText.j1])
    | succ kj2 =>
     have H := HA.out
     clear HA
     simp only [spec_ChangedText.j1] at H
     by_cases c8 : x16_2 = true
     rotate_left
     ·replace c8 := Bool.eq_false_iff.mpr c8
      subst c8
      have H1 : (some x5_1) = some r := by rw [if_neg (show ¬ (false = true) by decide)] at H; exact H
      clear H
      have H := H1
      clear H1
      obtain rfl := Option.some.inj H
      go_wp2
      go_ret
      exact ⟨zE6, zB6_0⟩
     subst c8
     have H1 : (if 0 ≤ x6_1 then (if x6_1 < (l0.length : Int) then (if x6_1 < (l1.length : Int) then (if (rd l0 x6_1) = (rd l1 x6_1) then (spec_ChangedText.l0 kj2 l0 l1 x5_1 (wrap64 (x6_1 + 1))) else ((spec_l16Digits.f kj2 x6_1).bind fun t299 => (if x5_1.size + t299.size ≤ 9223372036854775807 then (if (x5_1 ++ t299).size + 1 ≤ 9223372036854775807 then ((spec_l16Digits.f kj2 (rd l0 x6_1)).bind fun t301 => (if ((x5_1 ++ t299) ++ (⟨#[58]⟩ : ByteArray)).size + t301.size ≤ 9223372036854775807 then (if (((x5_1 ++ t299) ++ (⟨#[58]⟩ : ByteArray)) ++ t301).size + 1 ≤ 9223372036854775807 then ((spec_l16Digits.f kj2 (rd l1 x6_1)).bind fun t303 => (if ((((x5_1 ++ t299) ++ (⟨#[58]⟩ : ByteArray)) ++ t301) ++ (⟨#[62]⟩ : ByteArray)).size + t303.size ≤ 9223372036854775807 then (if (((((x5_1 ++ t299) ++ (⟨#[58]⟩ : ByteArray)) ++ t301) ++ (⟨#[62]⟩ : ByteArray)) ++ t303).size + 1 ≤ 9223372036854775807 then (spec_ChangedText.l0 kj2 l0 l1 ((((((x5_1 ++ t299) ++ (⟨#[58]⟩ : ByteArray)) ++ t301) ++ (⟨#[62]⟩ : ByteArray)) ++ t303) ++ (⟨#[10]⟩ : ByteArray)) (wrap64 (x6_1 + 1))) else (none)) else (none))) else (none)) else (none))) else (none)) else (none)))) else (none)) else (none)) else (none)) = some r := by rw [if_pos rfl] at H; exact H
     clear H
     have H := H1
     clear H1
     by_cases c9 : 0 ≤ x6_1
     rotate_left
     ·rw [if_neg c9] at H
      exact absurd H (by simp)
     rw [if_pos c9] at H
     have c9b0 : decide (0 ≤ x6_1) = true := decide_eq_true c9
     clear c9
     by_cases c10 : x6_1 < (l0.length : Int)
     rotate_left
     ·rw [if_neg c10] at H
      exact absurd H (by simp)
     rw [if_pos c10] at H
     have c10b0 : decide (x6_1 < (l0.length : Int)) = true := decide_eq_true c10
     clear c10
     by_cases c11 : x6_1 < (l1.length : Int)
     rotate_left
     ·rw [if_neg c11] at H
      exact absurd H (by simp)
     rw [if_pos c11] at H
     have c11b0 : decide (x6_1 < (l1.length : Int)) = true := decide_eq_true c11
     clear c11
     by_cases c12 : (rd l0 x6_1) = (rd l1 x6_1)
     ·rw [if_pos c12] at H
      have c12b0 : ((rd l0 x6_1) == (rd l1 x6_1)) = true := beq_iff_eq.mpr c12
      have c12b1 : ((rd l0 x6_1) != (rd l1 x6_1)) = false := bne_eq_false_iff_eq.mpr c12
      clear c12
      have H' := Aside0.mk H
      clear H
      try go_wp2
      have n0_ := Aside0.mk (below_drew1 HB.out)
      clear HB
      have HB := n0_
      clear n0_
      have p297 : 0 ≤ (x6_1 : Int) := zA6
      have q297 : x6_1 < (l0.length : Int) := zA6
      obtain ⟨ad297, e297, hx297_0⟩ := Kd.at_int HR0.out x6_1 p297 q297
      have hw297_0 := hx297_0
      cases e297
      replace hx297_0 := (HB.out.cell (World.block_lt_of_cell? w _ hx297_0)).trans hx297_0
      replace p297 := eq_true p297
      replace q297 := eq_true q297
      have p298 : 0 ≤ (x6_1 : Int) := zA6
      have q298 : x6_1 < (l1.length : Int) := zA6
      obtain ⟨ad298, e298, hx298_0⟩ := Kd.at_int HR1.out x6_1 p298 q298
      have hw298_0 := hx298_0
      cases e298
      replace hx298_0 := (HB.out.cell (World.block_lt_of_cell? w _ hx298_0)).trans hx298_0
      replace p298 := eq_true p298
      replace q298 := eq_true q298
      refine start_ (n := 9) (S := fun w' => w'.cell? (ad297.add (x6_1).toNat) = some (.int .i64 (rd l0 x6_1)) ∧ w'.cell? (ad298.add (x6_1).toNat) = some (.int .i64 (rd l1 x6_1))) (ds := []) zq6_0 (by kernel_rfl) rfl rfl ⟨((HB.out.cell (World.block_lt_of_cell? w _ hw297_0)).trans hw297_0), ((HB.out.cell (World.block_lt_of_cell? w _ hw298_0)).trans hw298_0)⟩ (fun hHeld => ?_); refine with_tabW spec_ChangedText.tab5 spec_ChangedText.bits5 (fun HT_ HW_ => ?_)
      generalize wc.drew = w13 at HB hx297_0 hx298_0 hHeld ⊢
      refine pure_ (i := 0) (N := some 19) (v := ?_) (a' := ?_) zq6_1 rfl rfl (any_of HT_.out (by kernel_rfl)) (fun _ _ _ h => h) (Or.inl ⟨by rfl, ?_⟩) ?_ ?_
      rotate_left
      ·intro w'
       go_simp
       with_reducible rfl
      rotate_left
      ·exact zV6
      refine pure_ (i := 1) (N := some 20) (v := ?_) (a' := ?_) zq6_2 rfl rfl (any_of HT_.out (by kernel_rfl)) (fun _ _ _ h => h) (Or.inl ⟨by rfl, ?_⟩) ?_ ?_
      rotate_left
      ·intro w'
       go_simp
       with_reducible rfl
      rotate_left
      ·exact zV6
      refine pure_ (i := 2) (N := some 21) (v := ?_) (a' := ?_) zq6_3 rfl rfl (any_of HT_.out (by kernel_rfl)) (fun _ _ _ h => h) (Or.inl ⟨by rfl, ?_⟩) ?_ ?_
      rotate_left
      ·intro w'
       go_simp
       with_reducible rfl
      rotate_left
      ·exact zV6
      refine pure_ (i := 4) (N := some 23) (v := ?_) (a' := ?_) zq6_4 rfl rfl (any_of HT_.out (by kernel_rfl)) (fun _ _ _ h => h) (Or.inl ⟨by rfl, ?_⟩) ?_ ?_
      rotate_left
      ·intro w'
       go_simp
       with_reducible rfl
      rotate_left
      ·exact zV6
      refine pure_ (i := 5) (N := some 24) (v := ?_) (a' := ?_) zq6_5 rfl rfl (any_of HT_.out (by kernel_rfl)) (fun _ _ _ h => h) (Or.inl ⟨by rfl, ?_⟩) ?_ ?_
      rotate_left
      ·intro w'
       go_simp
       with_reducible rfl
      rotate_left
      ·exact zV6
      refine pure_ (i := 6) (N := some 25) (v := ?_) (a' := ?_) zq6_6 rfl rfl (any_of HT_.out (by kernel_rfl)) (fun _ _ _ h => h) (Or.inl ⟨by rfl, ?_⟩) ?_ ?_
      rotate_left
      ·intro w'
       go_simp
       with_reducible rfl
      rotate_left
      ·exact zV6
      refine take_ (i := 3) (N := some 22) (v := ?_) (a' := ?_) zq6_7 rfl rfl (take_ofW HT_.out HW_.out (by kernel_rfl)) (fun _ _ _ h => h) (Or.inl ⟨by rfl, ?_⟩) hHeld ?_ ?_
      rotate_left
      ·rintro w' ⟨s0, s1⟩
       go_simp
       with_reducible rfl
      rotate_left
      ·exact zV6
      refine take_ (i := 7) (N := some 26) (v := ?_) (a' := ?_) zq6_8 rfl rfl (take_ofW HT_.out HW_.out (by kernel_rfl)) (fun _ _ _ h => h) (Or.inl ⟨by rfl, ?_⟩) hHeld ?_ ?_
      rotate_left
      ·rintro w' ⟨s0, s1⟩
       go_simp
       with_reducible rfl
      rotate_left
      ·exact zV6
      refine pure_ (i := 8) (N := some 27) (v := ?_) (a' := ?_) zq6_9 rfl rfl (any_of HT_.out (by kernel_rfl)) (fun _ _ _ h => h) (Or.inl ⟨by rfl, ?_⟩) ?_ ?_
      rotate_left
      ·intro w'
       go_simp
       with_reducible rfl
      rotate_left
      ·exact zV6
      refine done_ (done_of HT_.out (by kernel_rfl)) ?_
      try go_wp2
      go_roundg kj2
      case measure => have := HK1.out; have := HJ2.out; omega
      case rel => exact ⟨(x5_1), (wrap64 (x6_1 + 1)), (by first | rfl | (simp; done) | (simp [*]; done)), (by first | rfl | (simp; done) | (simp [*]; done)), H', ⟨by have := HK1.out; have := HJ2.out; omega⟩, ⟨zB6_0⟩⟩
     rw [if_neg c12] at H
     have c12b0 : ((rd l0 x6_1) == (rd l1 x6_1)) = false := beq_eq_false_iff_ne.mpr c12
     have c12b1 : ((rd l0 x6_1) != (rd l1 x6_1)) = true := bne_iff_ne.mpr c12
     replace H := Option.bind_eq_some_iff.mp H
     obtain ⟨t299, A140, H⟩ := H
     replace H : (if x5_1.size + t299.size ≤ 9223372036854775807 then (if (x5_1 ++ t299).size + 1 ≤ 9223372036854775807 then ((spec_l16Digits.f kj2 (rd l0 x6_1)).bind fun t301 => (if ((x5_1 ++ t299) ++ (⟨#[58]⟩ : ByteArray)).size + t301.size ≤ 9223372036854775807 then (if (((x5_1 ++ t299) ++ (⟨#[58]⟩ : ByteArray)) ++ t301).size + 1 ≤ 9223372036854775807 then ((spec_l16Digits.f kj2 (rd l1 x6_1)).bind fun t303 => (if ((((x5_1 ++ t299) ++ (⟨#[58]⟩ : ByteArray)) ++ t301) ++ (⟨#[62]⟩ : ByteArray)).size + t303.size ≤ 9223372036854775807 then (if (((((x5_1 ++ t299) ++ (⟨#[58]⟩ : ByteArray)) ++ t301) ++ (⟨#[62]⟩ : ByteArray)) ++ t303).size + 1 ≤ 9223372036854775807 then (spec_ChangedText.l0 kj2 l0 l1 ((((((x5_1 ++ t299) ++ (⟨#[58]⟩ : ByteArray)) ++ t301) ++ (⟨#[62]⟩ : ByteArray)) ++ t303) ++ (⟨#[10]⟩ : ByteArray)) (wrap64 (x6_1 + 1))) else (none)) else (none))) else (none)) else (none))) else (none)) else (none)) = some r := H
     have A14 := Aside0.mk A140
     clear A140
     by_cases c15 : x5_1.size + t299.size ≤ 9223372036854775807
     rotate_left
     ·rw [if_neg c15] at H
      exact absurd H (by simp)
     rw [if_pos c15] at H
     have c15b0 := eq_true c15
     have c15b1 : decide (x5_1.size + t299.size ≤ 9223372036854775807) = true := decide_eq_true c15
     try have c15b2 : (9223372036854775807 < x5_1.size + t299.size) = False := eq_false (Nat.not_lt.2 c15)
     by_cases c16 : (x5_1 ++ t299).size + 1 ≤ 9223372036854775807
     rotate_left
     ·rw [if_neg c16] at H
      exact absurd H (by simp)
     rw [if_pos c16] at H
     have c16b0 := eq_true c16
     have c16b1 : decide ((x5_1 ++ t299).size + 1 ≤ 9223372036854775807) = true := decide_eq_true c16
     try have c16b3 : (9223372036854775807 < x5_1.size + t299.size + 1) = False := eq_false (by have h_ := c16; simp only [ByteArray.size_append] at h_; exact Nat.not_lt.2 h_)
     try have c16b2 : (9223372036854775807 < (x5_1 ++ t299).size + 1) = False := eq_false (Nat.not_lt.2 c16)
     replace H := Option.bind_eq_some_iff.mp H
     obtain ⟨t301, A170, H⟩ := H
     replace H : (if ((x5_1 ++ t299) ++ (⟨#[58]⟩ : ByteArray)).size + t301.size ≤ 9223372036854775807 then (if (((x5_1 ++ t299) ++ (⟨#[58]⟩ : ByteArray)) ++ t301).size + 1 ≤ 9223372036854775807 then ((spec_l16Digits.f kj2 (rd l1 x6_1)).bind fun t303 => (if ((((x5_1 ++ t299) ++ (⟨#[58]⟩ : ByteArray)) ++ t301) ++ (⟨#[62]⟩ : ByteArray)).size + t303.size ≤ 9223372036854775807 then (if (((((x5_1 ++ t299) ++ (⟨#[58]⟩ : ByteArray)) ++ t301) ++ (⟨#[62]⟩ : ByteArray)) ++ t303).size + 1 ≤ 9223372036854775807 then (spec_ChangedText.l0 kj2 l0 l1 ((((((x5_1 ++ t299) ++ (⟨#[58]⟩ : ByteArray)) ++ t301) ++ (⟨#[62]⟩ : ByteArray)) ++ t303) ++ (⟨#[10]⟩ : ByteArray)) (wrap64 (x6_1 + 1))) else (none)) else (none))) else (none)) else (none)) = some r := H
     have A17 := Aside0.mk A170
     clear A170
     by_cases c18 : ((x5_1 ++ t299) ++ (⟨#[58]⟩ : ByteArray)).size + t301.size ≤ 9223372036854775807
     rotate_left
     ·rw [if_neg c18] at H
      exact absurd H (by simp)
     rw [if_pos c18] at H
     have c18b0 := eq_true c18
     have c18b1 : decide (((x5_1 ++ t299) ++ (⟨#[58]⟩ : ByteArray)).size + t301.size ≤ 9223372036854775807) = true := decide_eq_true c18
     try have c18b3 : (9223372036854775807 < x5_1.size + t299.size + 1 + t301.size) = False := eq_false (by have h_ := c18; simp only [ByteArray.size_append] at h_; exact Nat.not_lt.2 h_)
     try have c18b2 : (9223372036854775807 < ((x5_1 ++ t299) ++ (⟨#[58]⟩ : ByteArray)).size + t301.size) = False := eq_false (Nat.not_lt.2 c18)
     by_cases c19 : (((x5_1 ++ t299) ++ (⟨#[58]⟩ : ByteArray)) ++ t301).size + 1 ≤ 9223372036854775807
     rotate_left
     ·rw [if_neg c19] at H
      exact absurd H (by simp)
     rw [if_pos c19] at H
     have c19b0 := eq_true c19
     have c19b1 : decide ((((x5_1 ++ t299) ++ (⟨#[58]⟩ : ByteArray)) ++ t301).size + 1 ≤ 9223372036854775807) = true := decide_eq_true c19
     try have c19b3 : (9223372036854775807 < x5_1.size + t299.size + 1 + t301.size + 1) = False := eq_false (by have h_ := c19; simp only [ByteArray.size_append] at h_; exact Nat.not_lt.2 h_)
     try have c19b2 : (9223372036854775807 < (((x5_1 ++ t299) ++ (⟨#[58]⟩ : ByteArray)) ++ t301).size + 1) = False := eq_false (Nat.not_lt.2 c19)
     replace H := Option.bind_eq_some_iff.mp H
     obtain ⟨t303, A200, H⟩ := H
     replace H : (if ((((x5_1 ++ t299) ++ (⟨#[58]⟩ : ByteArray)) ++ t301) ++ (⟨#[62]⟩ : ByteArray)).size + t303.size ≤ 9223372036854775807 then (if (((((x5_1 ++ t299) ++ (⟨#[58]⟩ : ByteArray)) ++ t301) ++ (⟨#[62]⟩ : ByteArray)) ++ t303).size + 1 ≤ 9223372036854775807 then (spec_ChangedText.l0 kj2 l0 l1 ((((((x5_1 ++ t299) ++ (⟨#[58]⟩ : ByteArray)) ++ t301) ++ (⟨#[62]⟩ : ByteArray)) ++ t303) ++ (⟨#[10]⟩ : ByteArray)) (wrap64 (x6_1 + 1))) else (none)) else (none)) = some r := H
     have A20 := Aside0.mk A200
     clear A200
     by_cases c21 : ((((x5_1 ++ t299) ++ (⟨#[58]⟩ : ByteArray)) ++ t301) ++ (⟨#[62]⟩ : ByteArray)).size + t303.size ≤ 9223372036854775807
     rotate_left
     ·rw [if_neg c21] at H
      exact absurd H (by simp)
     rw [if_pos c21] at H
     have c21b0 := eq_true c21
     have c21b1 : decide (((((x5_1 ++ t299) ++ (⟨#[58]⟩ : ByteArray)) ++ t301) ++ (⟨#[62]⟩ : ByteArray)).size + t303.size ≤ 9223372036854775807) = true := decide_eq_true c21
     try have c21b3 : (9223372036854775807 < x5_1.size + t299.size + 1 + t301.size + 1 + t303.size) = False := eq_false (by have h_ := c21; simp only [ByteArray.size_append] at h_; exact Nat.not_lt.2 h_)
     try have c21b2 : (9223372036854775807 < ((((x5_1 ++ t299) ++ (⟨#[58]⟩ : ByteArray)) ++ t301) ++ (⟨#[62]⟩ : ByteArray)).size + t303.size) = False := eq_false (Nat.not_lt.2 c21)
     by_cases c22 : (((((x5_1 ++ t299) ++ (⟨#[58]⟩ : ByteArray)) ++ t301) ++ (⟨#[62]⟩ : ByteArray)) ++ t303).size + 1 ≤ 9223372036854775807
     rotate_left
     ·rw [if_neg c22] at H
      exact absurd H (by simp)
     rw [if_pos c22] at H
     have c22b0 := eq_true c22
     have c22b1 : decide ((((((x5_1 ++ t299) ++ (⟨#[58]⟩ : ByteArray)) ++ t301) ++ (⟨#[62]⟩ : ByteArray)) ++ t303).size + 1 ≤ 9223372036854775807) = true := decide_eq_true c22
     try have c22b3 : (9223372036854775807 < x5_1.size + t299.size + 1 + t301.size + 1 + t303.size + 1) = False := eq_false (by have h_ := c22; simp only [ByteArray.size_append] at h_; exact Nat.not_lt.2 h_)
     try have c22b2 : (9223372036854775807 < (((((x5_1 ++ t299) ++ (⟨#[58]⟩ : ByteArray)) ++ t301) ++ (⟨#[62]⟩ : ByteArray)) ++ t303).size + 1) = False := eq_false (Nat.not_lt.2 c22)
     have H' := Aside0.mk H
     clear H
     try go_wp2
     have n0_ := Aside0.mk (below_drew1 HB.out)
     clear HB
     have HB := n0_
     clear n0_
     have p297 : 0 ≤ (x6_1 : Int) := zA6
     have q297 : x6_1 < (l0.length : Int) := zA6
     obtain ⟨ad297, e297, hx297_0⟩ := Kd.at_int HR0.out x6_1 p297 q297
     have hw297_0 := hx297_0
     cases e297
     replace hx297_0 := (HB.out.cell (World.block_lt_of_cell? w _ hx297_0)).trans hx297_0
     replace p297 := eq_true p297
     replace q297 := eq_true q297
     have p298 : 0 ≤ (x6_1 : Int) := zA6
     have q298 : x6_1 < (l1.length : Int) := zA6
     obtain ⟨ad298, e298, hx298_0⟩ := Kd.at_int HR1.out x6_1 p298 q298
     have hw298_0 := hx298_0
     cases e298
     replace hx298_0 := (HB.out.cell (World.block_lt_of_cell? w _ hx298_0)).trans hx298_0
     replace p298 := eq_true p298
     replace q298 := eq_true q298
     refine start_ (n := 9) (S := fun w' => w'.cell? (ad297.add (x6_1).toNat) = some (.int .i64 (rd l0 x6_1)) ∧ w'.cell? (ad298.add (x6_1).toNat) = some (.int .i64 (rd l1 x6_1))) (ds := []) zq6_0 (by kernel_rfl) rfl rfl ⟨((HB.out.cell (World.block_lt_of_cell? w _ hw297_0)).trans hw297_0), ((HB.out.cell (World.block_lt_of_cell? w _ hw298_0)).trans hw298_0)⟩ (fun hHeld => ?_); refine with_tabW spec_ChangedText.tab5 spec_ChangedText.bits5 (fun HT_ HW_ => ?_)
     generalize wc.drew = w23 at HB hx297_0 hx298_0 hHeld ⊢
     refine pure_ (i := 0) (N := some 19) (v := ?_) (a' := ?_) zq6_1 rfl rfl (any_of HT_.out (by kernel_rfl)) (fun _ _ _ h => h) (Or.inl ⟨by rfl, ?_⟩) ?_ ?_
     rotate_left
     ·intro w'
      go_simp
      with_reducible rfl
     rotate_left
     ·exact zV6
     refine pure_ (i := 1) (N := some 20) (v := ?_) (a' := ?_) zq6_2 rfl rfl (any_of HT_.out (by kernel_rfl)) (fun _ _ _ h => h) (Or.inl ⟨by rfl, ?_⟩) ?_ ?_
     rotate_left
     ·intro w'
      go_simp
      with_reducible rfl
     rotate_left
     ·exact zV6
     refine pure_ (i := 2) (N := some 21) (v := ?_) (a' := ?_) zq6_3 rfl rfl (any_of HT_.out (by kernel_rfl)) (fun _ _ _ h => h) (Or.inl ⟨by rfl, ?_⟩) ?_ ?_
     rotate_left
     ·intro w'
      go_simp
      with_reducible rfl
     rotate_left
     ·exact zV6
     refine pure_ (i := 4) (N := some 23) (v := ?_) (a' := ?_) zq6_4 rfl rfl (any_of HT_.out (by kernel_rfl)) (fun _ _ _ h => h) (Or.inl ⟨by rfl, ?_⟩) ?_ ?_
     rotate_left
     ·intro w'
      go_simp
      with_reducible rfl
     rotate_left
     ·exact zV6
     refine pure_ (i := 5) (N := some 24) (v := ?_) (a' := ?_) zq6_5 rfl rfl (any_of HT_.out (by kernel_rfl)) (fun _ _ _ h => h) (Or.inl ⟨by rfl, ?_⟩) ?_ ?_
     rotate_left
     ·intro w'
      go_simp
      with_reducible rfl
     rotate_left
     ·exact zV6
     refine pure_ (i := 6) (N := some 25) (v := ?_) (a' := ?_) zq6_6 rfl rfl (any_of HT_.out (by kernel_rfl)) (fun _ _ _ h => h) (Or.inl ⟨by rfl, ?_⟩) ?_ ?_
     rotate_left
     ·intro w'
      go_simp
      with_reducible rfl
     rotate_left
     ·exact zV6
     refine take_ (i := 3) (N := some 22) (v := ?_) (a' := ?_) zq6_7 rfl rfl (take_ofW HT_.out HW_.out (by kernel_rfl)) (fun _ _ _ h => h) (Or.inl ⟨by rfl, ?_⟩) hHeld ?_ ?_
     rotate_left
     ·rintro w' ⟨s0, s1⟩
      go_simp
      with_reducible rfl
     rotate_left
     ·exact zV6
     refine take_ (i := 7) (N := some 26) (v := ?_) (a' := ?_) zq6_8 rfl rfl (take_ofW HT_.out HW_.out (by kernel_rfl)) (fun _ _ _ h => h) (Or.inl ⟨by rfl, ?_⟩) hHeld ?_ ?_
     rotate_left
     ·rintro w' ⟨s0, s1⟩
      go_simp
      with_reducible rfl
     rotate_left
     ·exact zV6
     refine pure_ (i := 8) (N := some 27) (v := ?_) (a' := ?_) zq6_9 rfl rfl (any_of HT_.out (by kernel_rfl)) (fun _ _ _ h => h) (Or.inl ⟨by rfl, ?_⟩) ?_ ?_
     rotate_left
     ·intro w'
      go_simp
      with_reducible rfl
     rotate_left
     ·exact zV6
     refine done_ (done_of HT_.out (by kernel_rfl)) ?_
     try go_wp2
     have n0_ := Aside0.mk (below_drew1 HB.out)
     clear HB
     have HB := n0_
     clear n0_
     have p300 : 0 ≤ (x6_1 : Int) := zA6
     have q300 : x6_1 < (l0.length : Int) := zA6
     obtain ⟨ad300, e300, hx300_0⟩ := Kd.at_int HR0.out x6_1 p300 q300
     have hw300_0 := hx300_0
     obtain rfl : ad297 = ad300 := (by injection e300)
     replace hx300_0 := (HB.out.cell (World.block_lt_of_cell? w _ hx300_0)).trans hx300_0
     replace p300 := eq_true p300
     replace q300 := eq_true q300
     have p302 : 0 ≤ (x6_1 : Int) := zA6
     have q302 : x6_1 < (l1.length : Int) := zA6
     obtain ⟨ad302, e302, hx302_0⟩ := Kd.at_int HR1.out x6_1 p302 q302
     have hw302_0 := hx302_0
     obtain rfl : ad298 = ad302 := (by injection e302)
     replace hx302_0 := (HB.out.cell (World.block_lt_of_cell? w _ hx302_0)).trans hx302_0
     replace p302 := eq_true p302
     replace q302 := eq_true q302
     refine start_ (n := 20) (S := fun w' => w'.cell? (ad297.add (x6_1).toNat) = some (.int .i64 (rd l0 x6_1)) ∧ w'.cell? (ad298.add (x6_1).toNat) = some (.int .i64 (rd l1 x6_1))) (ds := []) #[false, false, false, false, false, false, false, false, false, false, false, false, false, false, false, false, false, false, false, false] (by kernel_rfl) rfl rfl ⟨((HB.out.cell (World.block_lt_of_cell? w _ hw300_0)).trans hw300_0), ((HB.out.cell (World.block_lt_of_cell? w _ hw302_0)).trans hw302_0)⟩ (fun hHeld => ?_); refine with_tabW spec_ChangedText.tab6 spec_ChangedText.bits6 (fun HT_ HW_ => ?_)
     generalize w23.drew = w24 at HB hx300_0 hx302_0 hHeld ⊢
     refine pure_ (i := 0) (N := some 28) (v := ?_) (a' := ?_) #[true, false, false, false, false, false, false, false, false, false, false, false, false, false, false, false, false, false, false, false] rfl rfl (any_of HT_.out (by kernel_rfl)) (fun _ _ _ h => h) (Or.inl ⟨by rfl, ?_⟩) ?_ ?_
     rotate_left
     ·intro w'
      go_simp
      with_reducible rfl
     rotate_left
     ·exact zV6
     refine pure_ (i := 1) (N := some 29) (v := ?_) (a' := ?_) #[true, true, false, false, false, false, false, false, false, false, false, false, false, false, false, false, false, false, false, false] rfl rfl (any_of HT_.out (by kernel_rfl)) (fun _ _ _ h => h) (Or.inl ⟨by rfl, ?_⟩) ?_ ?_
     rotate_left
     ·intro w'
      go_simp
      with_reducible rfl
     rotate_left
     ·exact zV6
     refine pure_ (i := 5) (N := some 33) (v := ?_) (a' := ?_) #[true, true, false, false, false, true, false, false, false, false, false, false, false, false, false, false, false, false, false, false] rfl rfl (any_of HT_.out (by kernel_rfl)) (fun _ _ _ h => h) (Or.inl ⟨by rfl, ?_⟩) ?_ ?_
     rotate_left
     ·intro w'
      go_simp
      with_reducible rfl
     rotate_left
     ·exact zV6
     refine pure_ (i := 6) (N := some 34) (v := ?_) (a' := ?_) #[true, true, false, false, false, true, true, false, false, false, false, false, false, false, false, false, false, false, false, false] rfl rfl (any_of HT_.out (by kernel_rfl)) (fun _ _ _ h => h) (Or.inl ⟨by rfl, ?_⟩) ?_ ?_
     rotate_left
     ·intro w'
      go_simp
      with_reducible rfl
     rotate_left
     ·exact zV6
     refine pure_ (i := 7) (N := some 35) (v := ?_) (a' := ?_) #[true, true, false, false, false, true, true, true, false, false, false, false, false, false, false, false, false, false, false, false] rfl rfl (any_of HT_.out (by kernel_rfl)) (fun _ _ _ h => h) (Or.inl ⟨by rfl, ?_⟩) ?_ ?_
     rotate_left
     ·intro w'
      go_simp
      with_reducible rfl
     rotate_left
     ·exact zV6
     refine pure_ (i := 12) (N := some 40) (v := ?_) (a' := ?_) #[true, true, false, false, false, true, true, true, false, false, false, false, true, false, false, false, false, false, false, false] rfl rfl (any_of HT_.out (by kernel_rfl)) (fun _ _ _ h => h) (Or.inl ⟨by rfl, ?_⟩) ?_ ?_
     rotate_left
     ·intro w'
      go_simp
      with_reducible rfl
     rotate_left
     ·exact zV6
     refine pure_ (i := 13) (N := some 41) (v := ?_) (a' := ?_) #[true, true, false, false, false, true, true, true, false, false, false, false, true, true, false, false, false, false, false, false] rfl rfl (any_of HT_.out (by kernel_rfl)) (fun _ _ _ h => h) (Or.inl ⟨by rfl, ?_⟩) ?_ ?_
     rotate_left
     ·intro w'
      go_simp
      with_reducible rfl
     rotate_left
     ·exact zV6
     refine pure_ (i := 14) (N := some 42) (v := ?_) (a' := ?_) #[true, true, false, false, false, true, true, true, false, false, false, false, true, true, true, false, false, false, false, false] rfl rfl (any_of HT_.out (by kernel_rfl)) (fun _ _ _ h => h) (Or.inl ⟨by rfl, ?_⟩) ?_ ?_
     rotate_left
     ·intro w'
      go_simp
      with_reducible rfl
     rotate_left
     ·exact zV6
     refine take_ (i := 8) (N := some 36) (v := ?_) (a' := ?_) #[true, true, false, false, false, true, true, true, true, false, false, false, true, true, true, false, false, false, false, false] rfl rfl (take_ofW HT_.out HW_.out (by kernel_rfl)) (fun _ _ _ h => h) (Or.inl ⟨by rfl, ?_⟩) hHeld ?_ ?_
     rotate_left
     ·rintro w' ⟨s0, s1⟩
      go_simp
      with_reducible rfl
     rotate_left
     ·exact zV6
     refine take_ (i := 15) (N := some 43) (v := ?_) (a' := ?_) #[true, true, false, false, false, true, true, true, true, false, false, false, true, true, true, true, false, false, false, false] rfl rfl (take_ofW HT_.out HW_.out (by kernel_rfl)) (fun _ _ _ h => h) (Or.inl ⟨by rfl, ?_⟩) hHeld ?_ ?_
     rotate_left
     ·rintro w' ⟨s0, s1⟩
      go_simp
      with_reducible rfl
     rotate_left
     ·exact zV6
     refine one_ (i := 2) (N := some 30) #[true, true, true, false, false, true, true, true, true, false, false, false, true, true, true, true, false, false, false, false] rfl rfl (one_of HT_.out (by kernel_rfl)) (by decide) (fun K hK => ?_)
     refine goes_ Try.func126 (by kernel_rfl) rfl #[.int .i64 x6_1] (by rfl) rfl rfl zT6 ?_
     with_reducible refine (spec_l16Digits.calls kj2 x6_1 t299 _ A14.out).mono ?_
     rintro e w25 ⟨rfl, hb⟩
     refine ⟨_, rfl, ?_⟩
     have n0_ := Aside0.mk (below_step (zB6_0) hb)
     clear HB
     have HB := n0_
     clear n0_
     (try clear hb)
     (try clear hb2)
     (try clear hk)
     (try clear hi)
     refine hK.out _ _ ⟨((HB.out.cell (World.block_lt_of_cell? w _ hw300_0)).trans hw300_0), ((HB.out.cell (World.block_lt_of_cell? w _ hw302_0)).trans hw302_0)⟩ (fun hHeld => ?_)
     clear hK K
     refine norm_ (a' := ?_) ?_ ?_
     rotate_left
     ·show Act.put _ (some 30) _ = _
      simp only [Act.put, List.setIfInBounds_toArray, List.set_cons_zero, List.set_cons_succ, i64_w, i32_w]
      rfl
     refine pure_ (i := 3) (N := some 31) (v := ?_) (a' := ?_) #[true, true, true, true, false, true, true, true, true, false, false, false, true, true, true, true, false, false, false, false] rfl rfl (any_of HT_.out (by kernel_rfl)) (fun _ _ _ h => h) (Or.inl ⟨by rfl, ?_⟩) ?_ ?_
     rotate_left
     ·intro w'
      go_simp
      with_reducible rfl
     rotate_left
     ·exact zV6
     refine pure_ (i := 4) (N := some 32) (v := ?_) (a' := ?_) #[true, true, true, true, true, true, true, true, true, false, false, false, true, true, true, true, false, false, false, false] rfl rfl (any_of HT_.out (by kernel_rfl)) (fun _ _ _ h => h) (Or.inl ⟨by rfl, ?_⟩) ?_ ?_
     rotate_left
     ·intro w'
      go_simp
      with_reducible rfl
     rotate_left
     ·exact zV6
     refine one_ (i := 9) (N := some 37) #[true, true, true, true, true, true, true, true, true, true, false, false, true, true, true, true, false, false, false, false] rfl rfl (one_of HT_.out (by kernel_rfl)) (by decide) (fun K hK => ?_)
     refine goes_ Try.func126 (by kernel_rfl) rfl #[.int .i64 (rd l0 x6_1)] (by rfl) rfl rfl zT6 ?_
     with_reducible refine (spec_l16Digits.calls kj2 (rd l0 x6_1) t301 _ A17.out).mono ?_
     rintro e w26 ⟨rfl, hb⟩
     refine ⟨_, rfl, ?_⟩
     have n0_ := Aside0.mk (below_step (zB6_0) hb)
     clear HB
     have HB := n0_
     clear n0_
     (try clear hb)
     (try clear hb2)
     (try clear hk)
     (try clear hi)
     refine hK.out _ _ ⟨((HB.out.cell (World.block_lt_of_cell? w _ hw300_0)).trans hw300_0), ((HB.out.cell (World.block_lt_of_cell? w _ hw302_0)).trans hw302_0)⟩ (fun hHeld => ?_)
     clear hK K
     refine norm_ (a' := ?_) ?_ ?_
     rotate_left
     ·show Act.put _ (some 37) _ = _
      simp only [Act.put, List.setIfInBounds_toArray, List.set_cons_zero, List.set_cons_succ, i64_w, i32_w]
      rfl
     refine pure_ (i := 10) (N := some 38) (v := ?_) (a' := ?_) #[true, true, true, true, true, true, true, true, true, true, true, false, true, true, true, true, false, false, false, false] rfl rfl (any_of HT_.out (by kernel_rfl)) (fun _ _ _ h => h) (Or.inl ⟨by rfl, ?_⟩) ?_ ?_
     rotate_left
     ·intro w'
      go_simp
      with_reducible rfl
     rotate_left
     ·exact zV6
     refine pure_ (i := 11) (N := some 39) (v := ?_) (a' := ?_) #[true, true, true, true, true, true, true, true, true, true, true, true, true, true, true, true, false, false, false, false] rfl rfl (any_of HT_.out (by kernel_rfl)) (fun _ _ _ h => h) (Or.inl ⟨by rfl, ?_⟩) ?_ ?_
     rotate_left
     ·intro w'
      go_simp
      with_reducible rfl
     rotate_left
     ·exact zV6
     refine one_ (i := 16) (N := some 44) #[true, true, true, true, true, true, true, true, true, true, true, true, true, true, true, true, true, false, false, false] rfl rfl (one_of HT_.out (by kernel_rfl)) (by decide) (fun K hK => ?_)
     refine goes_ Try.func126 (by kernel_rfl) rfl #[.int .i64 (rd l1 x6_1)] (by rfl) rfl rfl zT6 ?_
     with_reducible refine (spec_l16Digits.calls kj2 (rd l1 x6_1) t303 _ A20.out).mono ?_
     rintro e w27 ⟨rfl, hb⟩
     refine ⟨_, rfl, ?_⟩
     have n0_ := Aside0.mk (below_step (zB6_0) hb)
     clear HB
     have HB := n0_
     clear n0_
     (try clear hb)
     (try clear hb2)
     (try clear hk)
     (try clear hi)
     refine hK.out _ _ ⟨((HB.out.cell (World.block_lt_of_cell? w _ hw300_0)).trans hw300_0), ((HB.out.cell (World.block_lt_of_cell? w _ hw302_0)).trans hw302_0)⟩ (fun hHeld => ?_)
     clear hK K
     refine norm_ (a' := ?_) ?_ ?_
     rotate_left
     ·show Act.put _ (some 44) _ = _
      simp only [Act.put, List.setIfInBounds_toArray, List.set_cons_zero, List.set_cons_succ, i64_w, i32_w]
      rfl
     refine pure_ (i := 17) (N := some 45) (v := ?_) (a' := ?_) #[true, true, true, true, true, true, true, true, true, true, true, true, true, true, true, true, true, true, false, false] rfl rfl (any_of HT_.out (by kernel_rfl)) (fun _ _ _ h => h) (Or.inl ⟨by rfl, ?_⟩) ?_ ?_
     rotate_left
     ·intro w'
      go_simp
      with_reducible rfl
     rotate_left
     ·exact zV6
     refine pure_ (i := 18) (N := some 46) (v := ?_) (a' := ?_) #[true, true, true, true, true, true, true, true, true, true, true, true, true, true, true, true, true, true, true, false] rfl rfl (any_of HT_.out (by kernel_rfl)) (fun _ _ _ h => h) (Or.inl ⟨by rfl, ?_⟩) ?_ ?_
     rotate_left
     ·intro w'
      go_simp
      with_reducible rfl
     rotate_left
     ·exact zV6
     refine pure_ (i := 19) (N := some 5) (v := ?_) (a' := ?_) #[true, true, true, true, true, true, true, true, true, true, true, true, true, true, true, true, true, true, true, true] rfl rfl (any_of HT_.out (by kernel_rfl)) (fun _ _ _ h => h) (Or.inl ⟨by rfl, ?_⟩) ?_ ?_
     rotate_left
     ·intro w'
      go_simp
      with_reducible rfl
     rotate_left
     ·exact zV6
     refine done_ (done_of HT_.out (by kernel_rfl)) ?_
     try go_wp2
     go_roundg kj2
     case measure => have := HK1.out; have := HJ2.out; omega
     case rel => exact ⟨((((((x5_1 ++ t299) ++ (⟨#[58]⟩ : ByteArray)) ++ t301) ++ (⟨#[62]⟩ : ByteArray)) ++ t303) ++ (⟨#[10]⟩ : ByteArray)), (wrap64 (x6_1 + 1)), (by first | rfl | (simp; done) | (simp [*]; done)), (by first | rfl | (simp; done) | (simp [*]; done)), H', ⟨by have := HK1.out; have := HJ2.out; omega⟩, ⟨zB6_0⟩⟩

/-! ### laws_words: function 59 -/
def laws_words.l0 : Nat → List Int → Int → Option (Bool)
 | 0, _, _ => none
 | k + 1, x0, x3 => if x3 < (x0.length : Int) then (if 0 ≤ x3 then (if (rd x0 x3) < 0 then (some false) else (if (rd x0 x3) > 65535 then (some false) else (laws_words.l0 k x0 (wrap64 (x3 + 1))))) else (none)) else (some true)
def laws_words.f (k : Nat) (l0 : List Int) : Option (Bool) := laws_words.l0 k l0 0
theorem laws_words.mono_l : ∀ k, (∀ y0 y1, LeO (laws_words.l0 k y0 y1) (laws_words.l0 (k + 1) y0 y1))
 | 0 => fun _ _ r h => by simp [laws_words.l0] at h
 | k + 1 => by
  have ih0 := laws_words.mono_l k
  ·intro y0 y1
   unfold laws_words.l0
   repeat' first
   | (with_reducible exact ih0 _ _)
   | (with_reducible exact LeO.refl _)
   | (with_reducible exact LeO.none _)
   | (with_reducible refine LeO.ite ?_ ?_)
   | (with_reducible refine LeO.bind ?_ (fun _ => ?_))
   | exact ih0 _ _
   | exact LeO.none _
   | refine LeO.ite ?_ ?_
   | refine LeO.bind ?_ (fun _ => ?_)
theorem laws_words.mono : ∀ a0 k, LeO (laws_words.f k a0) (laws_words.f (k + 1) a0) := by
 intro a0 k
 have ih0 := laws_words.mono_l k
 unfold laws_words.f
 repeat' first
   | (with_reducible exact ih0 _ _)
   | (with_reducible exact LeO.refl _)
   | (with_reducible exact LeO.none _)
   | (with_reducible refine LeO.ite ?_ ?_)
   | (with_reducible refine LeO.bind ?_ (fun _ => ?_))
   | exact ih0 _ _
   | exact LeO.none _
   | refine LeO.ite ?_ ?_
   | refine LeO.bind ?_ (fun _ => ?_)
set_option maxHeartbeats 8000000 in
set_option maxRecDepth 100000 in
theorem laws_words.calls (k : Nat) (A0 : Option Addr) (c0 : Nat) (l0 : List Int) (r : Bool) (w : World) (hr0 : Kd.C (Kd.int .i64) w A0 l0.length l0) (hc0 : l0.length ≤ c0) (h : laws_words.f k l0 = some r) :
  Calls Try.prog 59 #[.slice A0 l0.length c0] w fun e w' => e = .returned (.bool r) ∧ Drawn0 w w' := by
 have HR0 := Aside0.mk hr0
 have HC0 := Aside0.mk hc0
 clear hr0 hc0
 have H : (laws_words.l0 k l0 0) = some r := h
 clear h
 have H' := Aside0.mk H
 clear H
 go_enter Try.func59, Try.ntmps59
 go_wp2
 go_loopg [3] k (fun kq v3 w' => ∃ (x3_1 : Int), v3 = .int .i64 x3_1 ∧ Aside0 (laws_words.l0 kq l0 x3_1 = some r) ∧ Aside0 (kq ≤ k) ∧ Drawn0 w w')
 case atStart => exact ⟨(0), (by first | rfl | (simp; done) | (simp [*]; done)), H', ⟨Nat.le_refl _⟩, by repeat (first | exact Drawn0.refl _ | apply Drawn0.step)⟩
 case round =>
  clear H'
  obtain ⟨x3_1, rfl, HA, HK1, ⟨m1, rfl⟩⟩ := hrel
  cases gk with
  | zero => exact absurd HA.out (by simp [laws_words.l0])
  | succ k1 =>
   have H := HA.out
   clear HA
   simp only [laws_words.l0] at H
   by_cases c2 : x3_1 < (l0.length : Int)
   rotate_left
   ·rw [if_neg c2] at H
    have c2b0 : decide (x3_1 < (l0.length : Int)) = false := decide_eq_false c2
    clear c2
    obtain rfl := Option.some.inj H
    go_wp2
    go_ret
    exact ⟨by first | rfl | (simp; done) | (simp [*]; done), by repeat (first | exact Drawn0.refl _ | apply Drawn0.step)⟩
   rw [if_pos c2] at H
   have c2b0 : decide (x3_1 < (l0.length : Int)) = true := decide_eq_true c2
   clear c2
   by_cases c3 : 0 ≤ x3_1
   rotate_left
   ·rw [if_neg c3] at H
    exact absurd H (by simp)
   rw [if_pos c3] at H
   have c3b0 : decide (0 ≤ x3_1) = true := decide_eq_true c3
   clear c3
   by_cases c4 : (rd l0 x3_1) < 0
   ·rw [if_pos c4] at H
    have c4b0 : decide ((rd l0 x3_1) < 0) = true := decide_eq_true c4
    clear c4
    obtain rfl := Option.some.inj H
    have p304 : 0 ≤ (x3_1 : Int) := zA6
    have q304 : x3_1 < (l0.length : Int) := zA6
    obtain ⟨ad304, e304, hx304_0⟩ := Kd.at_int HR0.out x3_1 p304 q304
    cases e304
    replace p304 := eq_true p304
    replace q304 := eq_true q304
    go_wp2
    go_ret
    exact ⟨by first | rfl | (simp; done) | (simp [*]; done), by repeat (first | exact Drawn0.refl _ | apply Drawn0.step)⟩
   rw [if_neg c4] at H
   have c4b0 : decide ((rd l0 x3_1) < 0) = false := decide_eq_false c4
   clear c4
   by_cases c5 : (rd l0 x3_1) > 65535
   ·rw [if_pos c5] at H
    have c5b0 : decide (65535 < (rd l0 x3_1)) = true := decide_eq_true c5
    clear c5
    obtain rfl := Option.some.inj H
    have p304 : 0 ≤ (x3_1 : Int) := zA6
    have q304 : x3_1 < (l0.length : Int) := zA6
    obtain ⟨ad304, e304, hx304_0⟩ := Kd.at_int HR0.out x3_1 p304 q304
    cases e304
    replace p304 := eq_true p304
    replace q304 := eq_true q304
    have p305 : 0 ≤ (x3_1 : Int) := zA6
    have q305 : x3_1 < (l0.length : Int) := zA6
    obtain ⟨ad305, e305, hx305_0⟩ := Kd.at_int HR0.out x3_1 p305 q305
    obtain rfl : ad304 = ad305 := (by injection e305)
    replace p305 := eq_true p305
    replace q305 := eq_true q305
    go_wp2
    go_ret
    exact ⟨by first | rfl | (simp; done) | (simp [*]; done), by repeat (first | exact Drawn0.refl _ | apply Drawn0.step)⟩
   rw [if_neg c5] at H
   have c5b0 : decide (65535 < (rd l0 x3_1)) = false := decide_eq_false c5
   clear c5
   have H' := Aside0.mk H
   clear H
   have p304 : 0 ≤ (x3_1 : Int) := zA6
   have q304 : x3_1 < (l0.length : Int) := zA6
   obtain ⟨ad304, e304, hx304_0⟩ := Kd.at_int HR0.out x3_1 p304 q304
   cases e304
   replace p304 := eq_true p304
   replace q304 := eq_true q304
   have p305 : 0 ≤ (x3_1 : Int) := zA6
   have q305 : x3_1 < (l0.length : Int) := zA6
   obtain ⟨ad305, e305, hx305_0⟩ := Kd.at_int HR0.out x3_1 p305 q305
   obtain rfl : ad304 = ad305 := (by injection e305)
   replace p305 := eq_true p305
   replace q305 := eq_true q305
   go_wp2
   go_roundg k1
   case measure => have := HK1.out; omega
   case rel => exact ⟨(wrap64 (x3_1 + 1)), (by first | rfl | (simp; done) | (simp [*]; done)), H', ⟨by have := HK1.out; omega⟩, by repeat (first | exact Drawn0.refl _ | apply Drawn0.step)⟩

end Go.Proofs.Ytnekcbajadnldaa.PFnMemTexts
