-- made by wip/tools/myprint.py out of the seat's translation
import Derived.Test.YthmkclelkijhoaaDoorPFnExactEventReadx0
import Derived.Test.YthmkclelkijhoaaDoorPFnExactEventReadx2
import Derived.Test.YthmkclelkijhoaaDoorPFnExactEventReadx3
namespace Go.Proofs.YthmkclelkijhoaaDoor.PFnExactEventRead
open Go.RowKit Go.Proofs.YthmkclelkijhoaaDoorW.PrintWords Go.Proofs.YthmkclelkijhoaaDoorW.PrintLast Go.Proofs.YthmkclelkijhoaaDoorW.PrintMore
attribute [local go_sem] max2_int min2_int max_two min_two max_three min_three max_four min_four   -- for this text's walks alone
set_option linter.unusedVariables false
set_option linter.unusedSimpArgs false
theorem zc4_5 {w : World} {g : Nat} {a0 a1 a2 a3 a4 : Value} {t : TypeId} (h : w.heap[g]? = some (.cells #[a0, a1, a2, a3, a4] t (0, 0))) : w.cell? ⟨g, 0, none⟩ = some a0 ∧ w.cell? ⟨g, 1, none⟩ = some a1 ∧ w.cell? ⟨g, 2, none⟩ = some a2 ∧ w.cell? ⟨g, 3, none⟩ = some a3 ∧ w.cell? ⟨g, 4, none⟩ = some a4 ∧ w.frozen? ⟨g, 0, none⟩ = false ∧ w.frozen? ⟨g, 1, none⟩ = false ∧ w.frozen? ⟨g, 2, none⟩ = false ∧ w.frozen? ⟨g, 3, none⟩ = false ∧ w.frozen? ⟨g, 4, none⟩ = false := ⟨(blk_cell h 0).trans rfl, (blk_cell h 1).trans rfl, (blk_cell h 2).trans rfl, (blk_cell h 3).trans rfl, (blk_cell h 4).trans rfl, blk_frozen h 0, blk_frozen h 1, blk_frozen h 2, blk_frozen h 3, blk_frozen h 4⟩
theorem zR4 {p q : Prop} (x : q) (h : q → p := by intro h; (with_reducible repeat (first | apply Kd.R_alloc | apply Kd.R_drewN | apply Kd.R_drew)); exact h) : p := h x
theorem zK4 {p q : Prop} (x : q) (h : q → p := by intro h; (with_reducible repeat (first | refine blk_drewN ?_ _ | refine blk_drew ?_ | refine blk_alloc ?_ _)); exact h) : p := h x
theorem zA4 {p : Prop} [Decidable p] (h : decide p = true := by first | (with_reducible assumption) | assumption) : p := of_decide_eq_true h
theorem zT4 {p : Prop} (h : p := by (try simp only [List.map_toArray, List.map_cons, List.map_nil]); first | done | rfl | (simp only [List.length_drop, List.length_take]; rfl)) : p := h
theorem zb4 {W w w1 : World} {g : Nat} {o : Obj} (x : W.heap[g]? = some o) (hb : Below w.heap.size w w1) (h : W.heap[g]? = some o → w.heap[g]? = some o := by intro h; (with_reducible repeat (first | refine blk_drewN ?_ _ | refine blk_drew ?_ | refine blk_alloc ?_ _)); exact h) : w1.heap[g]? = some o := blk_below (h x) hb
theorem zn4 {W w : World} {g g' : Nat} {o : Obj} (x : W.heap[g]? = some o) (hg : g' = w.heap.size) (h : W.heap[g]? = some o → w.heap[g]? = some o := by intro h; (with_reducible repeat (first | refine blk_drewN ?_ _ | refine blk_drew ?_ | refine blk_alloc ?_ _)); exact h) : g ≠ g' := by rw [hg]; exact Nat.ne_of_lt (blk_lt (h x))
theorem zm4 {W w : World} {g g' : Nat} {o : Obj} (x : W.heap[g]? = some o) (hg : g' = w.heap.size) (h : W.heap[g]? = some o → w.heap[g]? = some o := by intro h; (with_reducible repeat (first | refine blk_drewN ?_ _ | refine blk_drew ?_ | refine blk_alloc ?_ _)); exact h) : g' ≠ g := by rw [hg]; exact Nat.ne_of_gt (blk_lt (h x))
theorem zP4 {p q : Prop} (x : q) (h : q → p := by intro h; (with_reducible repeat (first | refine blk_drewN ?_ _ | refine blk_drew ?_ | refine blk_alloc ?_ _)); exact h) : p := h x
theorem zE4 {p : Prop} (h : p := by first | rfl | (simp [errW_none, errW_some] <;> rfl) | (simp [*, errW_none, errW_some] <;> rfl)) : p := h
theorem zB4_0 {p : Prop} (h : p := by repeat (first | (with_reducible first | exact HB.out | apply below_alloc | apply pw_below_drewN | apply below_drew1) | exact HB.out)) : p := h
theorem zB4_1 {p : Prop} (h : p := by repeat (first | (with_reducible first | exact HB.out | apply below_alloc | apply pw_below_drewN | apply below_drew1 | refine below_set ?_ GE157.out) | exact HB.out)) : p := h
theorem zB4_2 {p : Prop} (h : p := by repeat (first | (with_reducible first | exact HB.out | apply below_alloc | apply pw_below_drewN | apply below_drew1 | refine below_set ?_ GE157.out | refine below_set ?_ GE161.out) | exact HB.out)) : p := h
theorem zB4_3 {p : Prop} (h : p := by repeat (first | (with_reducible first | exact HB.out | apply below_alloc | apply pw_below_drewN | apply below_drew1 | refine below_set ?_ GE167.out) | exact HB.out)) : p := h
theorem zB4_4 {p : Prop} (h : p := by repeat (first | (with_reducible first | exact HB.out | apply below_alloc | apply pw_below_drewN | apply below_drew1 | refine below_set ?_ GE167.out | refine below_set ?_ GE168.out) | exact HB.out)) : p := h
theorem zB4_5 {p : Prop} (h : p := by repeat (first | (with_reducible first | exact HB.out | apply below_alloc | apply pw_below_drewN | apply below_drew1 | refine below_set ?_ GE175.out) | exact HB.out)) : p := h
theorem zB4_6 {p : Prop} (h : p := by repeat (first | (with_reducible first | exact HB.out | apply below_alloc | apply pw_below_drewN | apply below_drew1 | refine below_set ?_ GE175.out | refine below_set ?_ GE182.out) | exact HB.out)) : p := h

/-! ### impl_number: function 17 -/
mutual
def impl_number.j0 : Nat → ByteArray → Bool → Option (Int × Bool)
 | 0, _, _ => none
 | k + 1, x0, x15 => if x15 = true then (some (0, false)) else (impl_number.l0 k x0 0 (x0.size : Int) 0)
def impl_number.l0 : Nat → ByteArray → Int → Int → Int → Option (Int × Bool)
 | 0, _, _, _, _ => none
 | k + 1, x0, x6, x17, x18 => if x18 < x17 then (if 0 ≤ x18 then (if x18 < (x0.size : Int) then (if (bt x0 x18) < 48 then (some (0, false)) else (if (bt x0 x18) > 57 then (some (0, false)) else (impl_number.l0 k x0 (wrap64 ((wrap64 (10 * x6)) + (((bt x0 x18) - 48) % 256))) x17 (wrap64 (x18 + 1))))) else (none)) else (none)) else ((impl_digits.f k x6).bind fun t156 => (some (x6, (t156.toList == x0.toList))))
end
def impl_number.f (k : Nat) (a0 : ByteArray) (a1 : Int) : Option (Int × Bool) := if a0.toList = ([] : List UInt8) then (impl_number.j0 k a0 true) else (impl_number.j0 k a0 (decide ((a0.size : Int) > a1)))
theorem impl_number.mono_l : ∀ k, (∀ y0 y1, LeO (impl_number.j0 k y0 y1) (impl_number.j0 (k + 1) y0 y1)) ∧ (∀ y0 y1 y2 y3, LeO (impl_number.l0 k y0 y1 y2 y3) (impl_number.l0 (k + 1) y0 y1 y2 y3))
 | 0 => ⟨fun _ _ r h => by simp [impl_number.j0] at h, fun _ _ _ _ r h => by simp [impl_number.l0] at h⟩
 | k + 1 => by
  obtain ⟨ih0, ih1⟩ := impl_number.mono_l k
  refine ⟨?_, ?_⟩
  ·intro y0 y1
   unfold impl_number.j0
   repeat' first
   | (with_reducible exact ih0 _ _)
   | (with_reducible exact ih1 _ _ _ _)
   | (with_reducible exact impl_digits.mono _ _)
   | (with_reducible exact LeO.refl _)
   | (with_reducible exact LeO.none _)
   | (with_reducible refine LeO.ite ?_ ?_)
   | (with_reducible refine LeO.bind ?_ (fun _ => ?_))
   | exact ih0 _ _
   | exact ih1 _ _ _ _
   | exact impl_digits.mono _ _
   | exact LeO.none _
   | refine LeO.ite ?_ ?_
   | refine LeO.bind ?_ (fun _ => ?_)
  ·intro y0 y1 y2 y3
   unfold impl_number.l0
   repeat' first
   | (with_reducible exact ih0 _ _)
   | (with_reducible exact ih1 _ _ _ _)
   | (with_reducible exact impl_digits.mono _ _)
   | (with_reducible exact LeO.refl _)
   | (with_reducible exact LeO.none _)
   | (with_reducible refine LeO.ite ?_ ?_)
   | (with_reducible refine LeO.bind ?_ (fun _ => ?_))
   | exact ih0 _ _
   | exact ih1 _ _ _ _
   | exact impl_digits.mono _ _
   | exact LeO.none _
   | refine LeO.ite ?_ ?_
   | refine LeO.bind ?_ (fun _ => ?_)
theorem impl_number.mono : ∀ a0 a1 k, LeO (impl_number.f k a0 a1) (impl_number.f (k + 1) a0 a1) := by
 intro a0 a1 k
 obtain ⟨ih0, ih1⟩ := impl_number.mono_l k
 unfold impl_number.f
 repeat' first
   | (with_reducible exact ih0 _ _)
   | (with_reducible exact ih1 _ _ _ _)
   | (with_reducible exact impl_digits.mono _ _)
   | (with_reducible exact LeO.refl _)
   | (with_reducible exact LeO.none _)
   | (with_reducible refine LeO.ite ?_ ?_)
   | (with_reducible refine LeO.bind ?_ (fun _ => ?_))
   | exact ih0 _ _
   | exact ih1 _ _ _ _
   | exact impl_digits.mono _ _
   | exact LeO.none _
   | refine LeO.ite ?_ ?_
   | refine LeO.bind ?_ (fun _ => ?_)
set_option maxHeartbeats 8000000 in
set_option maxRecDepth 100000 in
theorem impl_number.calls (k : Nat) (a0 : ByteArray) (a1 : Int) (r1 : Int) (r2 : Bool) (w : World) (h : impl_number.f k a0 a1 = some (r1, r2)) :
  Calls Tryd.prog 17 #[.string a0, .int .i64 a1] w fun e w' => e = .returned (.tuple #[.int .i64 r1, .bool r2]) ∧ Drawn0 w w' := by
 have H : (if a0.toList = ([] : List UInt8) then (impl_number.j0 k a0 true) else (impl_number.j0 k a0 (decide ((a0.size : Int) > a1)))) = some (r1, r2) := h
 clear h
 have HC3 := Aside0.mk H
 clear H
 go_enter Tryd.func17, Tryd.ntmps17
 go_upto_region 1 with (fail)
 go_cut [15] (fun v15 wc => ∃ (kq : Nat) (x15_2 : Bool), v15 = .bool x15_2 ∧ Aside0 (impl_number.j0 kq a0 x15_2 = some (r1, r2)) ∧ Aside0 (kq ≤ k) ∧ Drawn0 w wc)
 case first =>
  have H := HC3.out
  clear HC3
  by_cases c4 : a0.toList = ([] : List UInt8)
  ·rw [if_pos c4] at H
   have c4b0 : (a0.toList == ([] : List UInt8)) = true := beq_iff_eq.mpr c4
   have c4b1 : (a0.toList != ([] : List UInt8)) = false := bne_eq_false_iff_eq.mpr c4
   clear c4
   (first | rw [c4b0] | (simp only [i64_w, i32_w]; rw [c4b0]) | skip)
   have H' := Aside0.mk H
   clear H
   go_wp2
   go_meet
   case rel => exact ⟨_, (true), (by first | rfl | (simp; done) | (simp [*]; done)), H', ⟨by first | omega | exact Nat.le_refl _⟩, by repeat (first | exact Drawn0.refl _ | apply Drawn0.step)⟩
  rw [if_neg c4] at H
  have c4b0 : (a0.toList == ([] : List UInt8)) = false := beq_eq_false_iff_ne.mpr c4
  have c4b1 : (a0.toList != ([] : List UInt8)) = true := bne_iff_ne.mpr c4
  (first | rw [c4b0] | (simp only [i64_w, i32_w]; rw [c4b0]) | skip)
  have H' := Aside0.mk H
  clear H
  go_wp2
  go_meet
  case rel => exact ⟨_, (decide ((a0.size : Int) > a1)), (by first | rfl | (simp; done) | (simp [*]; done)), H', ⟨by first | omega | exact Nat.le_refl _⟩, by repeat (first | exact Drawn0.refl _ | apply Drawn0.step)⟩
 case rest =>
  clear HC3
  try clear c1
  try clear p2
  try clear c4
  try clear c4b0
  try clear c4b1
  obtain ⟨kq, x15_2, rfl, HA, HJ2, ⟨mc2, rfl⟩⟩ := hcut
  cases kq with
  | zero => exact absurd HA.out (by simp [impl_number.j0])
  | succ kj2 =>
   have H := HA.out
   clear HA
   simp only [impl_number.j0] at H
   by_cases c5 : x15_2 = true
   ·subst c5
    have H1 : (some (0, false)) = some (r1, r2) := by rw [if_pos rfl] at H; exact H
    clear H
    have H := H1
    clear H1
    simp only [Option.some.injEq, Prod.mk.injEq] at H
    obtain ⟨rfl, rfl⟩ := H
    go_wp2
    go_ret2
    exact ⟨by first | rfl | (simp; done) | (simp [*]; done), by repeat (first | exact Drawn0.refl _ | apply Drawn0.step)⟩
   replace c5 := Bool.eq_false_iff.mpr c5
   subst c5
   have H1 : (impl_number.l0 kj2 a0 0 (a0.size : Int) 0) = some (r1, r2) := by rw [if_neg (show ¬ (false = true) by decide)] at H; exact H
   clear H
   have H := H1
   clear H1
   have H' := Aside0.mk H
   clear H
   go_wp2
   go_loopg [6, 18] kj2 (fun kq v6 v18 w' => ∃ (x6_2 : Int) (x18_2 : Int), v6 = .int .i64 x6_2 ∧ v18 = .int .i64 x18_2 ∧ Aside0 (impl_number.l0 kq a0 x6_2 (a0.size : Int) x18_2 = some (r1, r2)) ∧ Aside0 (kq ≤ kj2) ∧ Drawn0 w w')
   case atStart => exact ⟨(0), (0), (by first | rfl | (simp; done) | (simp [*]; done)), (by first | rfl | (simp; done) | (simp [*]; done)), H', ⟨Nat.le_refl _⟩, by repeat (first | exact Drawn0.refl _ | apply Drawn0.step)⟩
   case round =>
    clear H'
    try clear c1
    try clear c2
    try clear p2
    try clear c4
    try clear c4b0
    try clear c4b1
    try clear c5
    try clear p2
    obtain ⟨x6_2, x18_2, rfl, rfl, HA, HK2, ⟨m2, rfl⟩⟩ := hrel
    cases gk with
    | zero => exact absurd HA.out (by simp [impl_number.l0])
    | succ k2 =>
     have H := HA.out
     clear HA
     simp only [impl_number.l0] at H
     by_cases c6 : x18_2 < (a0.size : Int)
     rotate_left
     ·rw [if_neg c6] at H
      have c6b0 : decide (x18_2 < (a0.size : Int)) = false := decide_eq_false c6
      clear c6
      replace H := Option.bind_eq_some_iff.mp H
      obtain ⟨t156, A140, H⟩ := H
      replace H : (some (x6_2, (t156.toList == a0.toList))) = some (r1, r2) := H
      have A14 := Aside0.mk A140
      clear A140
      simp only [Option.some.injEq, Prod.mk.injEq] at H
      obtain ⟨rfl, rfl⟩ := H
      go_wp2_with (first | ((with_reducible refine gate_callee (f := 22) rfl ?_); refine goesL_ (some 42) rfl rfl Tryd.func22 (by kernel_rfl) rfl #[.int .i64 x6_2] rfl zT4 ?_; (with_reducible refine (impl_digits.calls k2 x6_2 t156 _ A14.out).mono ?_); rintro e w' ⟨rfl, ⟨nd, rfl⟩⟩; refine ⟨_, rfl, ?_⟩))
      go_ret2
      exact ⟨by first | rfl | (simp; done) | (simp [*]; done), by repeat (first | exact Drawn0.refl _ | apply Drawn0.step)⟩
     rw [if_pos c6] at H
     have c6b0 : decide (x18_2 < (a0.size : Int)) = true := decide_eq_true c6
     clear c6
     by_cases c7 : 0 ≤ x18_2
     rotate_left
     ·rw [if_neg c7] at H
      exact absurd H (by simp)
     rw [if_pos c7] at H
     have c7b0 : decide (0 ≤ x18_2) = true := decide_eq_true c7
     clear c7
     by_cases c8 : x18_2 < (a0.size : Int)
     rotate_left
     ·rw [if_neg c8] at H
      exact absurd H (by simp)
     rw [if_pos c8] at H
     have c8b0 : decide (x18_2 < (a0.size : Int)) = true := decide_eq_true c8
     clear c8
     by_cases c10 : (bt a0 x18_2) < 48
     ·rw [if_pos c10] at H
      have c10b0 : decide ((bt a0 x18_2) < 48) = true := decide_eq_true c10
      clear c10
      simp only [Option.some.injEq, Prod.mk.injEq] at H
      obtain ⟨rfl, rfl⟩ := H
      have p9 : 0 ≤ (x18_2 : Int) := zA4
      have q9 : x18_2 < (a0.size : Int) := zA4
      have hx9 := bt_at a0 x18_2
      replace p9 := eq_true p9
      replace q9 := eq_true q9
      go_wp2
      go_ret2
      exact ⟨by first | rfl | (simp; done) | (simp [*]; done), by repeat (first | exact Drawn0.refl _ | apply Drawn0.step)⟩
     rw [if_neg c10] at H
     have c10b0 : decide ((bt a0 x18_2) < 48) = false := decide_eq_false c10
     clear c10
     by_cases c12 : (bt a0 x18_2) > 57
     ·rw [if_pos c12] at H
      have c12b0 : decide (57 < (bt a0 x18_2)) = true := decide_eq_true c12
      clear c12
      simp only [Option.some.injEq, Prod.mk.injEq] at H
      obtain ⟨rfl, rfl⟩ := H
      have p9 : 0 ≤ (x18_2 : Int) := zA4
      have q9 : x18_2 < (a0.size : Int) := zA4
      have hx9 := bt_at a0 x18_2
      replace p9 := eq_true p9
      replace q9 := eq_true q9
      have p11 : 0 ≤ (x18_2 : Int) := zA4
      have q11 : x18_2 < (a0.size : Int) := zA4
      have hx11 := bt_at a0 x18_2
      replace p11 := eq_true p11
      replace q11 := eq_true q11
      go_wp2
      go_ret2
      exact ⟨by first | rfl | (simp; done) | (simp [*]; done), by repeat (first | exact Drawn0.refl _ | apply Drawn0.step)⟩
     rw [if_neg c12] at H
     have c12b0 : decide (57 < (bt a0 x18_2)) = false := decide_eq_false c12
     clear c12
     have H' := Aside0.mk H
     clear H
     have p9 : 0 ≤ (x18_2 : Int) := zA4
     have q9 : x18_2 < (a0.size : Int) := zA4
     have hx9 := bt_at a0 x18_2
     replace p9 := eq_true p9
     replace q9 := eq_true q9
     have p11 : 0 ≤ (x18_2 : Int) := zA4
     have q11 : x18_2 < (a0.size : Int) := zA4
     have hx11 := bt_at a0 x18_2
     replace p11 := eq_true p11
     replace q11 := eq_true q11
     have p13 : 0 ≤ (x18_2 : Int) := zA4
     have q13 : x18_2 < (a0.size : Int) := zA4
     have hx13 := bt_at a0 x18_2
     replace p13 := eq_true p13
     replace q13 := eq_true q13
     go_wp2
     go_roundg k2
     case measure => have := HJ2.out; have := HK2.out; omega
     case rel => exact ⟨(wrap64 ((wrap64 (10 * x6_2)) + (((bt a0 x18_2) - 48) % 256))), (wrap64 (x18_2 + 1)), (by first | rfl | (simp; done) | (simp [*]; done)), (by first | rfl | (simp; done) | (simp [*]; done)), H', ⟨by have := HJ2.out; have := HK2.out; omega⟩, by repeat (first | exact Drawn0.refl _ | apply Drawn0.step)⟩

/-! ### impl_from: function 18 -/
def impl_from.f (a0 : Int) (a1 : Int) (a2 : Int) : Option (Bool) := if a0 ≥ a1 then (some (decide (a0 ≤ a2))) else (some false)
set_option maxHeartbeats 8000000 in
set_option maxRecDepth 100000 in
theorem impl_from.calls (a0 : Int) (a1 : Int) (a2 : Int) (r : Bool) (w : World) (h : impl_from.f a0 a1 a2 = some r) :
  Calls Tryd.prog 18 #[.int .i64 a0, .int .i64 a1, .int .i64 a2] w fun e w' => e = .returned (.bool r) ∧ Drawn0 w w' := by
 have H : (if a0 ≥ a1 then (some (decide (a0 ≤ a2))) else (some false)) = some r := h
 clear h
 by_cases c4 : a0 ≥ a1
 ·rw [if_pos c4] at H
  have c4b0 : decide (a1 ≤ a0) = true := decide_eq_true c4
  clear c4
  obtain rfl := Option.some.inj H
  go_enter Tryd.func18, Tryd.ntmps18
  go_wp2
  go_ret
  exact ⟨by first | rfl | (simp; done) | (simp [*]; done), by repeat (first | exact Drawn0.refl _ | apply Drawn0.step)⟩
 rw [if_neg c4] at H
 have c4b0 : decide (a1 ≤ a0) = false := decide_eq_false c4
 clear c4
 obtain rfl := Option.some.inj H
 go_enter Tryd.func18, Tryd.ntmps18
 go_wp2
 go_ret
 exact ⟨by first | rfl | (simp; done) | (simp [*]; done), by repeat (first | exact Drawn0.refl _ | apply Drawn0.step)⟩

/-! ### impl_EventRead: function 6 -/
mutual
def impl_EventRead.l0 : Nat → List ByteArray → Int → Int → Int → Int → Int → Int → Int → Option (Int × Int × Int × Int × Int × Bool)
 | 0, _, _, _, _, _, _, _, _ => none
 | k + 1, x19, x20, x21, x162000, x162001, x162002, x162003, x162004 => if x21 < x20 then (if 0 ≤ x21 then (if x21 < (x19.length : Int) then ((impl_number.f k (rdOf ByteArray.empty x19 x21) 5).bind fun bt163 => (if (rdOf ByteArray.empty x19 x21).toList = ([45] : List UInt8) then (impl_EventRead.j1 k x21 (-1) true x19 x20 x21 x162000 x162001 x162002 x162003 x162004) else (impl_EventRead.j1 k x21 bt163.1 bt163.2 x19 x20 x21 x162000 x162001 x162002 x162003 x162004))) else (none)) else (none)) else (some (x162000, x162001, x162002, x162003, x162004, true))
def impl_EventRead.j1 : Nat → Int → Int → Bool → List ByteArray → Int → Int → Int → Int → Int → Int → Int → Option (Int × Int × Int × Int × Int × Bool)
 | 0, _, _, _, _, _, _, _, _, _, _, _ => none
 | k + 1, x6, x8, x9, x19, x20, x21, x162000, x162001, x162002, x162003, x162004 => if x6 < 2 then (if x9 = true then ((impl_from.f x8 0 99).bind fun t165 => (if t165 = true then (impl_EventRead.l0 k x19 x20 (wrap64 (x21 + 1)) (if x6 = 0 then x8 else x162000) (if x6 = 1 then x8 else x162001) (if x6 = 2 then x8 else x162002) (if x6 = 3 then x8 else x162003) (if x6 = 4 then x8 else x162004)) else (some (0, 0, 0, 0, 0, false)))) else (some (0, 0, 0, 0, 0, false))) else (if x9 = true then ((impl_from.f x8 (-1) 65535).bind fun t166 => (if t166 = true then (impl_EventRead.l0 k x19 x20 (wrap64 (x21 + 1)) (if x6 = 0 then x8 else x162000) (if x6 = 1 then x8 else x162001) (if x6 = 2 then x8 else x162002) (if x6 = 3 then x8 else x162003) (if x6 = 4 then x8 else x162004)) else (some (0, 0, 0, 0, 0, false)))) else (some (0, 0, 0, 0, 0, false)))
end
def impl_EventRead.f (k : Nat) (a0 : ByteArray) : Option (Int × Int × Int × Int × Int × Bool) := (strings_Split.f k a0 (⟨#[32]⟩ : ByteArray)).bind fun t158 => (if (t158.length : Int) = 5 then (impl_EventRead.l0 k t158 (t158.length : Int) 0 0 0 0 0 0) else (some (0, 0, 0, 0, 0, false)))
theorem impl_EventRead.mono_l : ∀ k, (∀ y0 y1 y2 y3 y4 y5 y6 y7, LeO (impl_EventRead.l0 k y0 y1 y2 y3 y4 y5 y6 y7) (impl_EventRead.l0 (k + 1) y0 y1 y2 y3 y4 y5 y6 y7)) ∧ (∀ y0 y1 y2 y3 y4 y5 y6 y7 y8 y9 y10, LeO (impl_EventRead.j1 k y0 y1 y2 y3 y4 y5 y6 y7 y8 y9 y10) (impl_EventRead.j1 (k + 1) y0 y1 y2 y3 y4 y5 y6 y7 y8 y9 y10))
 | 0 => ⟨fun _ _ _ _ _ _ _ _ r h => by simp [impl_EventRead.l0] at h, fun _ _ _ _ _ _ _ _ _ _ _ r h => by simp [impl_EventRead.j1] at h⟩
 | k + 1 => by
  obtain ⟨ih0, ih1⟩ := impl_EventRead.mono_l k
  refine ⟨?_, ?_⟩
  ·intro y0 y1 y2 y3 y4 y5 y6 y7
   unfold impl_EventRead.l0
   repeat' first
   | (with_reducible exact ih0 _ _ _ _ _ _ _ _)
   | (with_reducible exact ih1 _ _ _ _ _ _ _ _ _ _ _)
   | (with_reducible exact impl_number.mono _ _ _)
   | (with_reducible exact strings_Split.mono _ _ _)
   | (with_reducible exact LeO.refl _)
   | (with_reducible exact LeO.none _)
   | (with_reducible refine LeO.ite ?_ ?_)
   | (with_reducible refine LeO.bind ?_ (fun _ => ?_))
   | exact ih0 _ _ _ _ _ _ _ _
   | exact ih1 _ _ _ _ _ _ _ _ _ _ _
   | exact impl_number.mono _ _ _
   | exact strings_Split.mono _ _ _
   | exact LeO.none _
   | refine LeO.ite ?_ ?_
   | refine LeO.bind ?_ (fun _ => ?_)
  ·intro y0 y1 y2 y3 y4 y5 y6 y7 y8 y9 y10
   unfold impl_EventRead.j1
   repeat' first
   | (with_reducible exact ih0 _ _ _ _ _ _ _ _)
   | (with_reducible exact ih1 _ _ _ _ _ _ _ _ _ _ _)
   | (with_reducible exact impl_number.mono _ _ _)
   | (with_reducible exact strings_Split.mono _ _ _)
   | (with_reducible exact LeO.refl _)
   | (with_reducible exact LeO.none _)
   | (with_reducible refine LeO.ite ?_ ?_)
   | (with_reducible refine LeO.bind ?_ (fun _ => ?_))
   | exact ih0 _ _ _ _ _ _ _ _
   | exact ih1 _ _ _ _ _ _ _ _ _ _ _
   | exact impl_number.mono _ _ _
   | exact strings_Split.mono _ _ _
   | exact LeO.none _
   | refine LeO.ite ?_ ?_
   | refine LeO.bind ?_ (fun _ => ?_)
theorem impl_EventRead.mono : ∀ a0 k, LeO (impl_EventRead.f k a0) (impl_EventRead.f (k + 1) a0) := by
 intro a0 k
 obtain ⟨ih0, ih1⟩ := impl_EventRead.mono_l k
 unfold impl_EventRead.f
 repeat' first
   | (with_reducible exact ih0 _ _ _ _ _ _ _ _)
   | (with_reducible exact ih1 _ _ _ _ _ _ _ _ _ _ _)
   | (with_reducible exact impl_number.mono _ _ _)
   | (with_reducible exact strings_Split.mono _ _ _)
   | (with_reducible exact LeO.refl _)
   | (with_reducible exact LeO.none _)
   | (with_reducible refine LeO.ite ?_ ?_)
   | (with_reducible refine LeO.bind ?_ (fun _ => ?_))
   | exact ih0 _ _ _ _ _ _ _ _
   | exact ih1 _ _ _ _ _ _ _ _ _ _ _
   | exact impl_number.mono _ _ _
   | exact strings_Split.mono _ _ _
   | exact LeO.none _
   | refine LeO.ite ?_ ?_
   | refine LeO.bind ?_ (fun _ => ?_)
set_option maxHeartbeats 8000000 in
set_option maxRecDepth 100000 in
theorem impl_EventRead.calls (k : Nat) (a0 : ByteArray) (r1 : Int) (r2 : Int) (r3 : Int) (r4 : Int) (r5 : Int) (r6 : Bool) (w : World) (h : impl_EventRead.f k a0 = some (r1, r2, r3, r4, r5, r6)) :
  Calls Tryd.prog 6 #[.string a0] w fun e w' => e = .returned (.tuple #[.agg #[.int .i64 r1, .int .i64 r2, .int .i64 r3, .int .i64 r4, .int .i64 r5], .bool r6]) ∧ Below w.heap.size w w' := by
 have hu23 := Tryd.underlying23
 have hu38 := Tryd.underlying38
 have HB := Aside0.mk (Below.refl w.heap.size w)
 have H : ((strings_Split.f k a0 (⟨#[32]⟩ : ByteArray)).bind fun t158 => (if (t158.length : Int) = 5 then (impl_EventRead.l0 k t158 (t158.length : Int) 0 0 0 0 0 0) else (some (0, 0, 0, 0, 0, false)))) = some (r1, r2, r3, r4, r5, r6) := h
 clear h
 replace H := Option.bind_eq_some_iff.mp H
 obtain ⟨t158, A20, H⟩ := H
 replace H : (if (t158.length : Int) = 5 then (impl_EventRead.l0 k t158 (t158.length : Int) 0 0 0 0 0 0) else (some (0, 0, 0, 0, 0, false))) = some (r1, r2, r3, r4, r5, r6) := H
 have A2 := Aside0.mk A20
 clear A20
 by_cases c3 : (t158.length : Int) = 5
 rotate_left
 ·rw [if_neg c3] at H
  have c3b0 : ((t158.length : Int) == 5) = false := beq_eq_false_iff_ne.mpr c3
  have c3b1 : ((t158.length : Int) != 5) = true := bne_iff_ne.mpr c3
  simp only [Option.some.injEq, Prod.mk.injEq] at H
  obtain ⟨rfl, rfl, rfl, rfl, rfl, rfl⟩ := H
  go_enter Tryd.func6, Tryd.ntmps6
  go_wp2_with (first | ((with_reducible refine gate_dst (N := 2) rfl ?_); refine box_event ?hg (N := 2) ?hd (cs := #[.int .i64 0, .int .i64 0, .int .i64 0, .int .i64 0, .int .i64 0]) (t := 23) ?hr ?_; (case hd => rfl); (case hg => rfl); (case hr => first | (go_simp; done) | (go_simp; rfl)); intro gb157 hg w38 hbox hb; have n0_ := Aside0.mk (below_step (zB4_0) hb); have n1_ := Aside0.mk (hbox); have n2_ := Aside0.mk ((by rw [hg]; exact (below_size (zB4_0)) : w.heap.size ≤ gb157)); have n3_ := Aside0.mk ((by rw [hg]; exact (below_size (zB4_0)) : w.heap.size ≤ gb157)); clear HB; have HB := n0_; have BK157 := n1_; have GW157 := n2_; have GE157 := n3_; clear n0_ n1_ n2_ n3_; clear hb hbox hg) | ((with_reducible refine gate_callee (f := 16) rfl ?_); refine goesL_ (some 13) rfl rfl Tryd.func16 (by kernel_rfl) rfl #[.string a0, .string (⟨#[32]⟩ : ByteArray)] rfl zT4 ?_; (with_reducible refine (strings_Split.calls k a0 (⟨#[32]⟩ : ByteArray) t158 _ A2.out).mono ?_); rintro e w39 ⟨v159, rfl, ho0, hb⟩; refine ⟨_, rfl, ?_⟩; have n0_ := Aside0.mk (Kd.R_lower ho0 (below_size (zB4_1))); have n1_ := Aside0.mk (zb4 BK157.out hb); have n2_ := Aside0.mk (below_step (zB4_1) hb); clear BK157; clear HB; have HO160 := n0_; have BK157 := n1_; have HB := n2_; clear n0_ n1_ n2_; (try clear hb); (try clear hb2); (try clear hk); (try clear hi); (try clear ho0); obtain ⟨Ao40, co40, eo40⟩ := Kd.R_slice HO160.out; subst eo40; obtain ⟨hcz41_0, hcz41_1, hcz41_2, hcz41_3, hcz41_4, hfz41_0, hfz41_1, hfz41_2, hfz41_3, hfz41_4⟩ := zc4_5 (w := w39) BK157.out))
  refine bodyPost_ret (results_ct rfl _ _ gb157 23 #[.int .i64 0, .int .i64 0, .int .i64 0, .int .i64 0, .int .i64 0] (0, 0) _ rfl (by refine zP4 ?_; refine blk_put (cs := #[.int .i64 0, .int .i64 0, .int .i64 0, .int .i64 0, .int .i64 0]) ?_ 4 _ rfl; refine zP4 ?_; refine blk_put (cs := #[.int .i64 0, .int .i64 0, .int .i64 0, .int .i64 0, .int .i64 0]) ?_ 3 _ rfl; refine zP4 ?_; refine blk_put (cs := #[.int .i64 0, .int .i64 0, .int .i64 0, .int .i64 0, .int .i64 0]) ?_ 2 _ rfl; refine zP4 ?_; refine blk_put (cs := #[.int .i64 0, .int .i64 0, .int .i64 0, .int .i64 0, .int .i64 0]) ?_ 1 _ rfl; refine zP4 ?_; refine blk_put (cs := #[.int .i64 0, .int .i64 0, .int .i64 0, .int .i64 0, .int .i64 0]) ?_ 0 _ rfl; refine zP4 ?_; exact BK157.out) Tryd.underlying23 rfl (by kernel_rfl)) rfl ?_
  exact ⟨zE4, zB4_1⟩
 rw [if_pos c3] at H
 have HT5_ := Aside0.mk c3
 have c3b0 : ((t158.length : Int) == 5) = true := beq_iff_eq.mpr c3
 have c3b1 : ((t158.length : Int) != 5) = false := bne_eq_false_iff_eq.mpr c3
 clear c3
 have H' := Aside0.mk H
 clear H
 go_enter Tryd.func6, Tryd.ntmps6
 go_wp2_with (first | ((with_reducible refine gate_dst (N := 2) rfl ?_); refine box_event ?hg (N := 2) ?hd (cs := #[.int .i64 0, .int .i64 0, .int .i64 0, .int .i64 0, .int .i64 0]) (t := 23) ?hr ?_; (case hd => rfl); (case hg => rfl); (case hr => first | (go_simp; done) | (go_simp; rfl)); intro gb157 hg w4 hbox hb; have n0_ := Aside0.mk (below_step (zB4_0) hb); have n1_ := Aside0.mk (hbox); have n2_ := Aside0.mk ((by rw [hg]; exact (below_size (zB4_0)) : w.heap.size ≤ gb157)); have n3_ := Aside0.mk ((by rw [hg]; exact (below_size (zB4_0)) : w.heap.size ≤ gb157)); clear HB; have HB := n0_; have BK157 := n1_; have GW157 := n2_; have GE157 := n3_; clear n0_ n1_ n2_ n3_; clear hb hbox hg) | ((with_reducible refine gate_callee (f := 16) rfl ?_); refine goesL_ (some 13) rfl rfl Tryd.func16 (by kernel_rfl) rfl #[.string a0, .string (⟨#[32]⟩ : ByteArray)] rfl zT4 ?_; (with_reducible refine (strings_Split.calls k a0 (⟨#[32]⟩ : ByteArray) t158 _ A2.out).mono ?_); rintro e w5 ⟨v159, rfl, ho0, hb⟩; refine ⟨_, rfl, ?_⟩; have n0_ := Aside0.mk (Kd.R_lower ho0 (below_size (zB4_1))); have n1_ := Aside0.mk (zb4 BK157.out hb); have n2_ := Aside0.mk (below_step (zB4_1) hb); clear BK157; clear HB; have HO160 := n0_; have BK157 := n1_; have HB := n2_; clear n0_ n1_ n2_; (try clear hb); (try clear hb2); (try clear hk); (try clear hi); (try clear ho0); obtain ⟨Ao6, co6, eo6⟩ := Kd.R_slice HO160.out; subst eo6) | ((with_reducible refine gate_dst (N := 5) rfl ?_); refine box_event ?hg (N := 5) ?hd (cs := #[.int .i64 0, .int .i64 0, .int .i64 0, .int .i64 0, .int .i64 0]) (t := 38) ?hr ?_; (case hd => rfl); (case hg => rfl); (case hr => first | (go_simp; done) | (go_simp; rfl)); intro gb161 hg w7 hbox hb; have n0_ := Aside0.mk (Kd.R_below (zR4 HO160.out) hb); have n1_ := Aside0.mk (zb4 BK157.out hb); have n2_ := Aside0.mk (below_step (zB4_1) hb); have n3_ := Aside0.mk (hbox); have n4_ := Aside0.mk ((by rw [hg]; exact (below_size (zB4_1)) : w.heap.size ≤ gb161)); have n5_ := Aside0.mk ((by rw [hg]; exact (below_size (zB4_1)) : w.heap.size ≤ gb161)); have n6_ := Aside0.mk ((zn4 BK157.out hg : gb157 ≠ gb161)); have n7_ := Aside0.mk ((zm4 BK157.out hg : gb161 ≠ gb157)); clear HO160; clear BK157; clear HB; have HO160 := n0_; have BK157 := n1_; have HB := n2_; have BK161 := n3_; have GW161 := n4_; have GE161 := n5_; have NB157_161 := n6_; have NB161_157 := n7_; clear n0_ n1_ n2_ n3_ n4_ n5_ n6_ n7_; clear hb hbox hg; have hnb8 := NB161_157.out; have hnc8 := NB157_161.out; obtain ⟨hcz9_0, hcz9_1, hcz9_2, hcz9_3, hcz9_4, hfz9_0, hfz9_1, hfz9_2, hfz9_3, hfz9_4⟩ := zc4_5 (w := w7) BK161.out))
 go_loopg [21] k (fun kq v21 w' => ∃ (x21_1 : Int) (x158000_1 : Int) (x158001_1 : Int) (x158002_1 : Int) (x158003_1 : Int) (x158004_1 : Int) (x162000_1 : Int) (x162001_1 : Int) (x162002_1 : Int) (x162003_1 : Int) (x162004_1 : Int), v21 = .int .i64 x21_1 ∧ Aside0 (impl_EventRead.l0 kq t158 (t158.length : Int) x21_1 x162000_1 x162001_1 x162002_1 x162003_1 x162004_1 = some (r1, r2, r3, r4, r5, r6)) ∧ Aside0 (kq ≤ k) ∧ Aside0 (Kd.R Kd.string 9 w' w.heap.size (fun _ => True) (.slice Ao6 t158.length co6) t158) ∧ Aside0 (w'.heap[gb157]? = some (.cells #[.int .i64 x158000_1, .int .i64 x158001_1, .int .i64 x158002_1, .int .i64 x158003_1, .int .i64 x158004_1] 23 (0, 0))) ∧ Aside0 (w'.heap[gb161]? = some (.cells #[.int .i64 x162000_1, .int .i64 x162001_1, .int .i64 x162002_1, .int .i64 x162003_1, .int .i64 x162004_1] 38 (0, 0))) ∧ Aside0 (Below w.heap.size w w'))
 case atStart => exact ⟨(0), (0), (0), (0), (0), (0), (0), (0), (0), (0), (0), (by first | rfl | (simp; done) | (simp [*]; done)), H', ⟨Nat.le_refl _⟩, ⟨by (with_reducible repeat (first | apply Kd.R_alloc | apply Kd.R_drewN | apply Kd.R_drew)); exact Kd.R_mono (Kd.R_far (p := ⟨gb161, 4, none⟩) (Kd.R_far (p := ⟨gb161, 3, none⟩) (Kd.R_far (p := ⟨gb161, 2, none⟩) (Kd.R_far (p := ⟨gb161, 1, none⟩) (Kd.R_far (p := ⟨gb161, 0, none⟩) (Kd.R_types HO160.out BK161.out (by decide)) (fun _ hk => hk.2) (.int .i64 0)) (fun _ hk => hk.2) (.int .i64 0)) (fun _ hk => hk.2) (.int .i64 0)) (fun _ hk => hk.2) (.int .i64 0)) (fun _ hk => hk.2) (.int .i64 0)) (fun _ hk => trivial)⟩, ⟨by refine zP4 ?_; refine blk_far ?_ NB157_161.out _; refine zP4 ?_; refine blk_far ?_ NB157_161.out _; refine zP4 ?_; refine blk_far ?_ NB157_161.out _; refine zP4 ?_; refine blk_far ?_ NB157_161.out _; refine zP4 ?_; refine blk_far ?_ NB157_161.out _; refine zP4 ?_; exact BK157.out⟩, ⟨by refine zP4 ?_; refine blk_put (cs := #[.int .i64 0, .int .i64 0, .int .i64 0, .int .i64 0, .int .i64 0]) ?_ 4 _ rfl; refine zP4 ?_; refine blk_put (cs := #[.int .i64 0, .int .i64 0, .int .i64 0, .int .i64 0, .int .i64 0]) ?_ 3 _ rfl; refine zP4 ?_; refine blk_put (cs := #[.int .i64 0, .int .i64 0, .int .i64 0, .int .i64 0, .int .i64 0]) ?_ 2 _ rfl; refine zP4 ?_; refine blk_put (cs := #[.int .i64 0, .int .i64 0, .int .i64 0, .int .i64 0, .int .i64 0]) ?_ 1 _ rfl; refine zP4 ?_; refine blk_put (cs := #[.int .i64 0, .int .i64 0, .int .i64 0, .int .i64 0, .int .i64 0]) ?_ 0 _ rfl; refine zP4 ?_; exact BK161.out⟩, ⟨zB4_2⟩⟩
 case round =>
  clear H'
  try clear c1
  try clear p2
  try clear c3
  try clear c3b0
  try clear c3b1
  try clear c6
  try clear c8
  try clear hcz9_0
  try clear hcz9_1
  try clear hcz9_2
  try clear hcz9_3
  try clear hcz9_4
  try clear hfz9_0
  try clear hfz9_1
  try clear hfz9_2
  try clear hfz9_3
  try clear hfz9_4
  obtain ⟨x21_1, x158000_1, x158001_1, x158002_1, x158003_1, x158004_1, x162000_1, x162001_1, x162002_1, x162003_1, x162004_1, rfl, HA, HK1, HO_19, BK157, BK161, HB⟩ := hrel
  cases gk with
  | zero => exact absurd HA.out (by simp [impl_EventRead.l0])
  | succ k1 =>
   have H := HA.out
   clear HA
   simp only [impl_EventRead.l0] at H
   by_cases c10 : x21_1 < (t158.length : Int)
   rotate_left
   ·rw [if_neg c10] at H
    have c10b0 : decide (x21_1 < (t158.length : Int)) = false := decide_eq_false c10
    clear c10
    simp only [Option.some.injEq, Prod.mk.injEq] at H
    obtain ⟨rfl, rfl, rfl, rfl, rfl, rfl⟩ := H
    have hnb35 := NB161_157.out
    have hnc35 := NB157_161.out
    obtain ⟨hcz36_0, hcz36_1, hcz36_2, hcz36_3, hcz36_4, hfz36_0, hfz36_1, hfz36_2, hfz36_3, hfz36_4⟩ := zc4_5 (w := wr) BK161.out
    obtain ⟨hcz37_0, hcz37_1, hcz37_2, hcz37_3, hcz37_4, hfz37_0, hfz37_1, hfz37_2, hfz37_3, hfz37_4⟩ := zc4_5 (w := wr) BK157.out
    go_wp2
    refine bodyPost_ret (results_ct rfl _ _ gb157 23 #[.int .i64 x162000_1, .int .i64 x162001_1, .int .i64 x162002_1, .int .i64 x162003_1, .int .i64 x162004_1] (0, 0) _ rfl (by refine zP4 ?_; refine blk_put (cs := #[.int .i64 x162000_1, .int .i64 x162001_1, .int .i64 x162002_1, .int .i64 x162003_1, .int .i64 x158004_1]) ?_ 4 _ rfl; refine zP4 ?_; refine blk_put (cs := #[.int .i64 x162000_1, .int .i64 x162001_1, .int .i64 x162002_1, .int .i64 x158003_1, .int .i64 x158004_1]) ?_ 3 _ rfl; refine zP4 ?_; refine blk_put (cs := #[.int .i64 x162000_1, .int .i64 x162001_1, .int .i64 x158002_1, .int .i64 x158003_1, .int .i64 x158004_1]) ?_ 2 _ rfl; refine zP4 ?_; refine blk_put (cs := #[.int .i64 x162000_1, .int .i64 x158001_1, .int .i64 x158002_1, .int .i64 x158003_1, .int .i64 x158004_1]) ?_ 1 _ rfl; refine zP4 ?_; refine blk_put (cs := #[.int .i64 x158000_1, .int .i64 x158001_1, .int .i64 x158002_1, .int .i64 x158003_1, .int .i64 x158004_1]) ?_ 0 _ rfl; refine zP4 ?_; exact BK157.out) Tryd.underlying23 rfl (by kernel_rfl)) rfl ?_
    exact ⟨zE4, zB4_2⟩
   rw [if_pos c10] at H
   have HX1_ := Aside0.mk c10
   have c10b0 : decide (x21_1 < (t158.length : Int)) = true := decide_eq_true c10
   clear c10
   by_cases c11 : 0 ≤ x21_1
   rotate_left
   ·rw [if_neg c11] at H
    exact absurd H (by simp)
   rw [if_pos c11] at H
   have HX0_ := Aside0.mk c11
   have c11b0 : decide (0 ≤ x21_1) = true := decide_eq_true c11
   clear c11
   by_cases c12 : x21_1 < (t158.length : Int)
   rotate_left
   ·rw [if_neg c12] at H
    exact absurd H (by simp)
   rw [if_pos c12] at H
   have HX1_ := Aside0.mk c12
   have c12b0 : decide (x21_1 < (t158.length : Int)) = true := decide_eq_true c12
   clear c12
   replace H := Option.bind_eq_some_iff.mp H
   obtain ⟨⟨t163, t164⟩, A130, H⟩ := H
   replace H : (if (rdOf ByteArray.empty t158 x21_1).toList = ([45] : List UInt8) then (impl_EventRead.j1 k1 x21_1 (-1) true t158 (t158.length : Int) x21_1 x162000_1 x162001_1 x162002_1 x162003_1 x162004_1) else (impl_EventRead.j1 k1 x21_1 t163 t164 t158 (t158.length : Int) x21_1 x162000_1 x162001_1 x162002_1 x162003_1 x162004_1)) = some (r1, r2, r3, r4, r5, r6) := H
   have A13 := Aside0.mk A130
   clear A130
   have HC14 := Aside0.mk H
   clear H
   have p162 : 0 ≤ (x21_1 : Int) := zA4
   have q162 : x21_1 < (t158.length : Int) := zA4
   obtain ⟨ad162, e162, hx162_0⟩ := Kd.at_string (Kd.R_reads' HO_19.out).2.2 x21_1 p162 q162
   cases e162
   replace p162 := eq_true p162
   replace q162 := eq_true q162
   go_upto_if 32 with (first | ((with_reducible refine gate_callee (f := 17) rfl ?_); refine goesL_ (some 28) rfl rfl Tryd.func17 (by kernel_rfl) rfl #[.string (rdOf ByteArray.empty t158 x21_1), .int .i64 5] rfl zT4 ?_; (with_reducible refine (impl_number.calls k1 (rdOf ByteArray.empty t158 x21_1) 5 t163 t164 _ A13.out).mono ?_); rintro e w' ⟨rfl, ⟨nd, rfl⟩⟩; refine ⟨_, rfl, ?_⟩))
   (try simp only [Act.put, List.setIfInBounds_toArray, List.set_cons_zero, List.set_cons_succ])
   go_cut [8, 9] (fun v8 v9 wc => ∃ (kq : Nat) (x8_13 : Int) (x9_13 : Bool), v8 = .int .i64 x8_13 ∧ v9 = .bool x9_13 ∧ Aside0 (impl_EventRead.j1 kq x21_1 x8_13 x9_13 t158 (t158.length : Int) x21_1 x162000_1 x162001_1 x162002_1 x162003_1 x162004_1 = some (r1, r2, r3, r4, r5, r6)) ∧ Aside0 (kq ≤ k1) ∧ Aside0 (Kd.R Kd.string 9 wc w.heap.size (fun _ => True) (.slice (some ad162) t158.length co6) t158) ∧ Aside0 (wc.heap[gb157]? = some (.cells #[.int .i64 x158000_1, .int .i64 x158001_1, .int .i64 x158002_1, .int .i64 x158003_1, .int .i64 x158004_1] 23 (0, 0))) ∧ Aside0 (wc.heap[gb161]? = some (.cells #[.int .i64 x162000_1, .int .i64 x162001_1, .int .i64 x162002_1, .int .i64 x162003_1, .int .i64 x162004_1] 38 (0, 0))) ∧ Aside0 (Below w.heap.size w wc))
   case first =>
    have H := HC14.out
    clear HC14
    by_cases c15 : (rdOf ByteArray.empty t158 x21_1).toList = ([45] : List UInt8)
    rotate_left
    ·rw [if_neg c15] at H
     have c15b0 : ((rdOf ByteArray.empty t158 x21_1).toList == ([45] : List UInt8)) = false := beq_eq_false_iff_ne.mpr c15
     have c15b1 : ((rdOf ByteArray.empty t158 x21_1).toList != ([45] : List UInt8)) = true := bne_iff_ne.mpr c15
     (first | rw [c15b0] | (simp only [i64_w, i32_w]; rw [c15b0]) | skip)
     have H' := Aside0.mk H
     clear H
     go_wp2
     go_meet
     case rel => exact ⟨_, (t163), (t164), (by first | rfl | (simp; done) | (simp [*]; done)), (by first | rfl | (simp; done) | (simp [*]; done)), H', ⟨by have := HK1.out; first | omega | exact Nat.le_refl _⟩, ⟨zR4 HO_19.out⟩, ⟨zK4 BK157.out⟩, ⟨zK4 BK161.out⟩, ⟨zB4_2⟩⟩
    rw [if_pos c15] at H
    have c15b0 : ((rdOf ByteArray.empty t158 x21_1).toList == ([45] : List UInt8)) = true := beq_iff_eq.mpr c15
    have c15b1 : ((rdOf ByteArray.empty t158 x21_1).toList != ([45] : List UInt8)) = false := bne_eq_false_iff_eq.mpr c15
    clear c15
    (first | rw [c15b0] | (simp only [i64_w, i32_w]; rw [c15b0]) | skip)
    have H' := Aside0.mk H
    clear H
    go_wp2
    go_meet
    case rel => exact ⟨_, ((-1)), (true), (by first | rfl | (simp; done) | (simp [*]; done)), (by first | rfl | (simp; done) | (simp [*]; done)), H', ⟨by have := HK1.out; first | omega | exact Nat.le_refl _⟩, ⟨zR4 HO_19.out⟩, ⟨zK4 BK157.out⟩, ⟨zK4 BK161.out⟩, ⟨zB4_2⟩⟩
   case rest =>
    clear HC14
    try clear c1
    try clear p1
    try clear q1
    try clear hx1
    try clear p2
    try clear c3
    try clear c3b0
    try clear c3b1
    try clear c6
    try clear c8
    try clear c10
    try clear c10b0
    try clear c11
    try clear c11b0
    try clear c12
    try clear c12b0
    try clear c15
    try clear c15b0
    try clear c15b1
    try clear hcz9_0
    try clear hcz9_1
    try clear hcz9_2
    try clear hcz9_3
    try clear hcz9_4
    try clear hfz9_0
    try clear hfz9_1
    try clear hfz9_2
    try clear hfz9_3
    try clear hfz9_4
    try clear hx162_0
    try clear p162
    try clear p2
    try clear q162
    obtain ⟨kq, x8_13, x9_13, rfl, rfl, HA, HJ13, HO_19, BK157, BK161, HB⟩ := hcut
    cases kq with
    | zero => exact absurd HA.out (by simp [impl_EventRead.j1])
    | succ kj13 =>
     have H := HA.out
     clear HA
     simp only [impl_EventRead.j1] at H
     by_cases c16 : x21_1 < 2
     ·rw [if_pos c16] at H
      have c16b0 : decide (x21_1 < 2) = true := decide_eq_true c16
      clear c16
      by_cases c17 : x9_13 = true
      rotate_left
      ·replace c17 := Bool.eq_false_iff.mpr c17
       subst c17
       have H1 : (some (0, 0, 0, 0, 0, false)) = some (r1, r2, r3, r4, r5, r6) := by rw [if_neg (show ¬ (false = true) by decide)] at H; exact H
       clear H
       have H := H1
       clear H1
       simp only [Option.some.injEq, Prod.mk.injEq] at H
       obtain ⟨rfl, rfl, rfl, rfl, rfl, rfl⟩ := H
       have hnb24 := NB157_161.out
       have hnc24 := NB161_157.out
       obtain ⟨hcz25_0, hcz25_1, hcz25_2, hcz25_3, hcz25_4, hfz25_0, hfz25_1, hfz25_2, hfz25_3, hfz25_4⟩ := zc4_5 (w := wc) BK157.out
       go_wp2
       refine bodyPost_ret (results_ct rfl _ _ gb157 23 #[.int .i64 0, .int .i64 0, .int .i64 0, .int .i64 0, .int .i64 0] (0, 0) _ rfl (by refine zP4 ?_; refine blk_put (cs := #[.int .i64 0, .int .i64 0, .int .i64 0, .int .i64 0, .int .i64 x158004_1]) ?_ 4 _ rfl; refine zP4 ?_; refine blk_put (cs := #[.int .i64 0, .int .i64 0, .int .i64 0, .int .i64 x158003_1, .int .i64 x158004_1]) ?_ 3 _ rfl; refine zP4 ?_; refine blk_put (cs := #[.int .i64 0, .int .i64 0, .int .i64 x158002_1, .int .i64 x158003_1, .int .i64 x158004_1]) ?_ 2 _ rfl; refine zP4 ?_; refine blk_put (cs := #[.int .i64 0, .int .i64 x158001_1, .int .i64 x158002_1, .int .i64 x158003_1, .int .i64 x158004_1]) ?_ 1 _ rfl; refine zP4 ?_; refine blk_put (cs := #[.int .i64 x158000_1, .int .i64 x158001_1, .int .i64 x158002_1, .int .i64 x158003_1, .int .i64 x158004_1]) ?_ 0 _ rfl; refine zP4 ?_; exact BK157.out) Tryd.underlying23 rfl (by kernel_rfl)) rfl ?_
       exact ⟨zE4, zB4_2⟩
      subst c17
      have H1 : ((impl_from.f x8_13 0 99).bind fun t165 => (if t165 = true then (impl_EventRead.l0 kj13 t158 (t158.length : Int) (wrap64 (x21_1 + 1)) (if x21_1 = 0 then x8_13 else x162000_1) (if x21_1 = 1 then x8_13 else x162001_1) (if x21_1 = 2 then x8_13 else x162002_1) (if x21_1 = 3 then x8_13 else x162003_1) (if x21_1 = 4 then x8_13 else x162004_1)) else (some (0, 0, 0, 0, 0, false)))) = some (r1, r2, r3, r4, r5, r6) := by rw [if_pos rfl] at H; exact H
      clear H
      have H := H1
      clear H1
      replace H := Option.bind_eq_some_iff.mp H
      obtain ⟨t165, A180, H⟩ := H
      replace H : (if t165 = true then (impl_EventRead.l0 kj13 t158 (t158.length : Int) (wrap64 (x21_1 + 1)) (if x21_1 = 0 then x8_13 else x162000_1) (if x21_1 = 1 then x8_13 else x162001_1) (if x21_1 = 2 then x8_13 else x162002_1) (if x21_1 = 3 then x8_13 else x162003_1) (if x21_1 = 4 then x8_13 else x162004_1)) else (some (0, 0, 0, 0, 0, false))) = some (r1, r2, r3, r4, r5, r6) := H
      have A18 := Aside0.mk A180
      clear A180
      by_cases c19 : t165 = true
      rotate_left
      ·replace c19 := Bool.eq_false_iff.mpr c19
       subst c19
       have H1 : (some (0, 0, 0, 0, 0, false)) = some (r1, r2, r3, r4, r5, r6) := by rw [if_neg (show ¬ (false = true) by decide)] at H; exact H
       clear H
       have H := H1
       clear H1
       simp only [Option.some.injEq, Prod.mk.injEq] at H
       obtain ⟨rfl, rfl, rfl, rfl, rfl, rfl⟩ := H
       go_wp2_with (first | (go_at_call 18; (with_reducible refine (impl_from.calls x8_13 0 99 false _ A18.out).mono ?_); rintro e w' ⟨rfl, ⟨nd, rfl⟩⟩; (try (rw [drewN_self wc]; generalize hq_ : World.drewN wc _ = wc; have n0_ : Aside0 (Kd.R Kd.string 9 wc w.heap.size (fun _ => True) (.slice (some ad162) t158.length co6) t158) := ⟨by rw [← hq_]; exact (zR4 HO_19.out)⟩; have n1_ : Aside0 (wc.heap[gb157]? = some (.cells #[.int .i64 x158000_1, .int .i64 x158001_1, .int .i64 x158002_1, .int .i64 x158003_1, .int .i64 x158004_1] 23 (0, 0))) := ⟨by rw [← hq_]; exact (zK4 BK157.out)⟩; have n2_ : Aside0 (wc.heap[gb161]? = some (.cells #[.int .i64 x162000_1, .int .i64 x162001_1, .int .i64 x162002_1, .int .i64 x162003_1, .int .i64 x162004_1] 38 (0, 0))) := ⟨by rw [← hq_]; exact (zK4 BK161.out)⟩; have n3_ : Aside0 (Below w.heap.size w wc) := ⟨by rw [← hq_]; exact (zB4_2)⟩; clear HO_19 BK157 BK161 HB hq_; have HO_19 := n0_; have BK157 := n1_; have BK161 := n2_; have HB := n3_; clear n0_ n1_ n2_ n3_)); have hnb22 := NB157_161.out; have hnc22 := NB161_157.out; obtain ⟨hcz23_0, hcz23_1, hcz23_2, hcz23_3, hcz23_4, hfz23_0, hfz23_1, hfz23_2, hfz23_3, hfz23_4⟩ := zc4_5 (w := wc) BK157.out))
       refine bodyPost_ret (results_ct rfl _ _ gb157 23 #[.int .i64 0, .int .i64 0, .int .i64 0, .int .i64 0, .int .i64 0] (0, 0) _ rfl (by refine zP4 ?_; refine blk_put (cs := #[.int .i64 0, .int .i64 0, .int .i64 0, .int .i64 0, .int .i64 x158004_1]) ?_ 4 _ rfl; refine zP4 ?_; refine blk_put (cs := #[.int .i64 0, .int .i64 0, .int .i64 0, .int .i64 x158003_1, .int .i64 x158004_1]) ?_ 3 _ rfl; refine zP4 ?_; refine blk_put (cs := #[.int .i64 0, .int .i64 0, .int .i64 x158002_1, .int .i64 x158003_1, .int .i64 x158004_1]) ?_ 2 _ rfl; refine zP4 ?_; refine blk_put (cs := #[.int .i64 0, .int .i64 x158001_1, .int .i64 x158002_1, .int .i64 x158003_1, .int .i64 x158004_1]) ?_ 1 _ rfl; refine zP4 ?_; refine blk_put (cs := #[.int .i64 x158000_1, .int .i64 x158001_1, .int .i64 x158002_1, .int .i64 x158003_1, .int .i64 x158004_1]) ?_ 0 _ rfl; refine zP4 ?_; exact BK157.out) Tryd.underlying23 rfl (by kernel_rfl)) rfl ?_
       exact ⟨zE4, zB4_2⟩
      subst c19
      have H1 : (impl_EventRead.l0 kj13 t158 (t158.length : Int) (wrap64 (x21_1 + 1)) (if x21_1 = 0 then x8_13 else x162000_1) (if x21_1 = 1 then x8_13 else x162001_1) (if x21_1 = 2 then x8_13 else x162002_1) (if x21_1 = 3 then x8_13 else x162003_1) (if x21_1 = 4 then x8_13 else x162004_1)) = some (r1, r2, r3, r4, r5, r6) := by rw [if_pos rfl] at H; exact H
      clear H
      have H := H1
      clear H1
      have hlo_ := HX0_.out; have hhi_ := HX1_.out; have h5_ := HT5_.out; have h2_ : x21_1 < 2 := of_decide_eq_true c16b0
      clear HX0_ HX1_
      rcases (show x21_1 = 0 ∨ x21_1 = 1 by omega) with hq_ | hq_
      ·subst hq_
       clear hlo_ hhi_ h5_ h2_
       rw [if_pos (show (0 : Int) = 0 from rfl), if_neg (show ¬ (0 : Int) = 1 by decide), if_neg (show ¬ (0 : Int) = 2 by decide), if_neg (show ¬ (0 : Int) = 3 by decide), if_neg (show ¬ (0 : Int) = 4 by decide)] at H
       have H' := Aside0.mk H
       clear H
       go_wp2_with (first | (go_at_call 18; (with_reducible refine (impl_from.calls x8_13 0 99 true _ A18.out).mono ?_); rintro e w' ⟨rfl, ⟨nd, rfl⟩⟩; (try (rw [drewN_self wc]; generalize hq_ : World.drewN wc _ = wc; have n0_ : Aside0 (Kd.R Kd.string 9 wc w.heap.size (fun _ => True) (.slice (some ad162) t158.length co6) t158) := ⟨by rw [← hq_]; exact (zR4 HO_19.out)⟩; have n1_ : Aside0 (wc.heap[gb157]? = some (.cells #[.int .i64 x158000_1, .int .i64 x158001_1, .int .i64 x158002_1, .int .i64 x158003_1, .int .i64 x158004_1] 23 (0, 0))) := ⟨by rw [← hq_]; exact (zK4 BK157.out)⟩; have n2_ : Aside0 (wc.heap[gb161]? = some (.cells #[.int .i64 x162000_1, .int .i64 x162001_1, .int .i64 x162002_1, .int .i64 x162003_1, .int .i64 x162004_1] 38 (0, 0))) := ⟨by rw [← hq_]; exact (zK4 BK161.out)⟩; have n3_ : Aside0 (Below w.heap.size w wc) := ⟨by rw [← hq_]; exact (zB4_2)⟩; clear HO_19 BK157 BK161 HB hq_; have HO_19 := n0_; have BK157 := n1_; have BK161 := n2_; have HB := n3_; clear n0_ n1_ n2_ n3_)); have hnb20 := NB161_157.out; have hnc20 := NB157_161.out; obtain ⟨hcz21_0, hcz21_1, hcz21_2, hcz21_3, hcz21_4, hfz21_0, hfz21_1, hfz21_2, hfz21_3, hfz21_4⟩ := zc4_5 (w := wc) BK161.out))
       go_roundg kj13
       case measure => have := HK1.out; have := HJ13.out; omega
       case rel => exact ⟨(wrap64 ((0 : Int) + 1)), (x158000_1), (x158001_1), (x158002_1), (x158003_1), (x158004_1), (x8_13), (x162001_1), (x162002_1), (x162003_1), (x162004_1), (by first | rfl | (simp; done) | (simp; unfold wrap64; omega) | (simp [*]; done)), H', ⟨by have := HK1.out; have := HJ13.out; omega⟩, ⟨by (with_reducible repeat (first | apply Kd.R_alloc | apply Kd.R_drewN | apply Kd.R_drew)); exact Kd.R_mono (Kd.R_far (p := ⟨gb161, 0, none⟩) (Kd.R_types HO_19.out BK161.out (by decide)) (fun _ hk => hk.2) (.int .i64 x8_13)) (fun _ hk => trivial)⟩, ⟨by refine zP4 ?_; refine blk_far ?_ NB157_161.out _; refine zP4 ?_; exact BK157.out⟩, ⟨by refine zP4 ?_; refine blk_put (cs := #[.int .i64 x162000_1, .int .i64 x162001_1, .int .i64 x162002_1, .int .i64 x162003_1, .int .i64 x162004_1]) ?_ 0 _ rfl; refine zP4 ?_; exact BK161.out⟩, ⟨zB4_2⟩⟩
      ·subst hq_
       clear hlo_ hhi_ h5_ h2_
       rw [if_neg (show ¬ (1 : Int) = 0 by decide), if_pos (show (1 : Int) = 1 from rfl), if_neg (show ¬ (1 : Int) = 2 by decide), if_neg (show ¬ (1 : Int) = 3 by decide), if_neg (show ¬ (1 : Int) = 4 by decide)] at H
       have H' := Aside0.mk H
       clear H
       go_wp2_with (first | (go_at_call 18; (with_reducible refine (impl_from.calls x8_13 0 99 true _ A18.out).mono ?_); rintro e w' ⟨rfl, ⟨nd, rfl⟩⟩; (try (rw [drewN_self wc]; generalize hq_ : World.drewN wc _ = wc; have n0_ : Aside0 (Kd.R Kd.string 9 wc w.heap.size (fun _ => True) (.slice (some ad162) t158.length co6) t158) := ⟨by rw [← hq_]; exact (zR4 HO_19.out)⟩; have n1_ : Aside0 (wc.heap[gb157]? = some (.cells #[.int .i64 x158000_1, .int .i64 x158001_1, .int .i64 x158002_1, .int .i64 x158003_1, .int .i64 x158004_1] 23 (0, 0))) := ⟨by rw [← hq_]; exact (zK4 BK157.out)⟩; have n2_ : Aside0 (wc.heap[gb161]? = some (.cells #[.int .i64 x162000_1, .int .i64 x162001_1, .int .i64 x162002_1, .int .i64 x162003_1, .int .i64 x162004_1] 38 (0, 0))) := ⟨by rw [← hq_]; exact (zK4 BK161.out)⟩; have n3_ : Aside0 (Below w.heap.size w wc) := ⟨by rw [← hq_]; exact (zB4_2)⟩; clear HO_19 BK157 BK161 HB hq_; have HO_19 := n0_; have BK157 := n1_; have BK161 := n2_; have HB := n3_; clear n0_ n1_ n2_ n3_)); have hnb20 := NB161_157.out; have hnc20 := NB157_161.out; obtain ⟨hcz21_0, hcz21_1, hcz21_2, hcz21_3, hcz21_4, hfz21_0, hfz21_1, hfz21_2, hfz21_3, hfz21_4⟩ := zc4_5 (w := wc) BK161.out))
       go_roundg kj13
       case measure => have := HK1.out; have := HJ13.out; omega
       case rel => exact ⟨(wrap64 ((1 : Int) + 1)), (x158000_1), (x158001_1), (x158002_1), (x158003_1), (x158004_1), (x162000_1), (x8_13), (x162002_1), (x162003_1), (x162004_1), (by first | rfl | (simp; done) | (simp; unfold wrap64; omega) | (simp [*]; done)), H', ⟨by have := HK1.out; have := HJ13.out; omega⟩, ⟨by (with_reducible repeat (first | apply Kd.R_alloc | apply Kd.R_drewN | apply Kd.R_drew)); exact Kd.R_mono (Kd.R_far (p := ⟨gb161, 1, none⟩) (Kd.R_types HO_19.out BK161.out (by decide)) (fun _ hk => hk.2) (.int .i64 x8_13)) (fun _ hk => trivial)⟩, ⟨by refine zP4 ?_; refine blk_far ?_ NB157_161.out _; refine zP4 ?_; exact BK157.out⟩, ⟨by refine zP4 ?_; refine blk_put (cs := #[.int .i64 x162000_1, .int .i64 x162001_1, .int .i64 x162002_1, .int .i64 x162003_1, .int .i64 x162004_1]) ?_ 1 _ rfl; refine zP4 ?_; exact BK161.out⟩, ⟨zB4_2⟩⟩
     rw [if_neg c16] at H
     have c16b0 : decide (x21_1 < 2) = false := decide_eq_false c16
     clear c16
     by_cases c26 : x9_13 = true
     rotate_left
     ·replace c26 := Bool.eq_false_iff.mpr c26
      subst c26
      have H1 : (some (0, 0, 0, 0, 0, false)) = some (r1, r2, r3, r4, r5, r6) := by rw [if_neg (show ¬ (false = true) by decide)] at H; exact H
      clear H
      have H := H1
      clear H1
      simp only [Option.some.injEq, Prod.mk.injEq] at H
      obtain ⟨rfl, rfl, rfl, rfl, rfl, rfl⟩ := H
      have hnb33 := NB157_161.out
      have hnc33 := NB161_157.out
      obtain ⟨hcz34_0, hcz34_1, hcz34_2, hcz34_3, hcz34_4, hfz34_0, hfz34_1, hfz34_2, hfz34_3, hfz34_4⟩ := zc4_5 (w := wc) BK157.out
      go_wp2
      refine bodyPost_ret (results_ct rfl _ _ gb157 23 #[.int .i64 0, .int .i64 0, .int .i64 0, .int .i64 0, .int .i64 0] (0, 0) _ rfl (by refine zP4 ?_; refine blk_put (cs := #[.int .i64 0, .int .i64 0, .int .i64 0, .int .i64 0, .int .i64 x158004_1]) ?_ 4 _ rfl; refine zP4 ?_; refine blk_put (cs := #[.int .i64 0, .int .i64 0, .int .i64 0, .int .i64 x158003_1, .int .i64 x158004_1]) ?_ 3 _ rfl; refine zP4 ?_; refine blk_put (cs := #[.int .i64 0, .int .i64 0, .int .i64 x158002_1, .int .i64 x158003_1, .int .i64 x158004_1]) ?_ 2 _ rfl; refine zP4 ?_; refine blk_put (cs := #[.int .i64 0, .int .i64 x158001_1, .int .i64 x158002_1, .int .i64 x158003_1, .int .i64 x158004_1]) ?_ 1 _ rfl; refine zP4 ?_; refine blk_put (cs := #[.int .i64 x158000_1, .int .i64 x158001_1, .int .i64 x158002_1, .int .i64 x158003_1, .int .i64 x158004_1]) ?_ 0 _ rfl; refine zP4 ?_; exact BK157.out) Tryd.underlying23 rfl (by kernel_rfl)) rfl ?_
      exact ⟨zE4, zB4_2⟩
     subst c26
     have H1 : ((impl_from.f x8_13 (-1) 65535).bind fun t166 => (if t166 = true then (impl_EventRead.l0 kj13 t158 (t158.length : Int) (wrap64 (x21_1 + 1)) (if x21_1 = 0 then x8_13 else x162000_1) (if x21_1 = 1 then x8_13 else x162001_1) (if x21_1 = 2 then x8_13 else x162002_1) (if x21_1 = 3 then x8_13 else x162003_1) (if x21_1 = 4 then x8_13 else x162004_1)) else (some (0, 0, 0, 0, 0, false)))) = some (r1, r2, r3, r4, r5, r6) := by rw [if_pos rfl] at H; exact H
     clear H
     have H := H1
     clear H1
     replace H := Option.bind_eq_some_iff.mp H
     obtain ⟨t166, A270, H⟩ := H
     replace H : (if t166 = true then (impl_EventRead.l0 kj13 t158 (t158.length : Int) (wrap64 (x21_1 + 1)) (if x21_1 = 0 then x8_13 else x162000_1) (if x21_1 = 1 then x8_13 else x162001_1) (if x21_1 = 2 then x8_13 else x162002_1) (if x21_1 = 3 then x8_13 else x162003_1) (if x21_1 = 4 then x8_13 else x162004_1)) else (some (0, 0, 0, 0, 0, false))) = some (r1, r2, r3, r4, r5, r6) := H
     have A27 := Aside0.mk A270
     clear A270
     by_cases c28 : t166 = true
     rotate_left
     ·replace c28 := Bool.eq_false_iff.mpr c28
      subst c28
      have H1 : (some (0, 0, 0, 0, 0, false)) = some (r1, r2, r3, r4, r5, r6) := by rw [if_neg (show ¬ (false = true) by decide)] at H; exact H
      clear H
      have H := H1
      clear H1
      simp only [Option.some.injEq, Prod.mk.injEq] at H
      obtain ⟨rfl, rfl, rfl, rfl, rfl, rfl⟩ := H
      go_wp2_with (first | (go_at_call 18; (with_reducible refine (impl_from.calls x8_13 (-1) 65535 false _ A27.out).mono ?_); rintro e w' ⟨rfl, ⟨nd, rfl⟩⟩; (try (rw [drewN_self wc]; generalize hq_ : World.drewN wc _ = wc; have n0_ : Aside0 (Kd.R Kd.string 9 wc w.heap.size (fun _ => True) (.slice (some ad162) t158.length co6) t158) := ⟨by rw [← hq_]; exact (zR4 HO_19.out)⟩; have n1_ : Aside0 (wc.heap[gb157]? = some (.cells #[.int .i64 x158000_1, .int .i64 x158001_1, .int .i64 x158002_1, .int .i64 x158003_1, .int .i64 x158004_1] 23 (0, 0))) := ⟨by rw [← hq_]; exact (zK4 BK157.out)⟩; have n2_ : Aside0 (wc.heap[gb161]? = some (.cells #[.int .i64 x162000_1, .int .i64 x162001_1, .int .i64 x162002_1, .int .i64 x162003_1, .int .i64 x162004_1] 38 (0, 0))) := ⟨by rw [← hq_]; exact (zK4 BK161.out)⟩; have n3_ : Aside0 (Below w.heap.size w wc) := ⟨by rw [← hq_]; exact (zB4_2)⟩; clear HO_19 BK157 BK161 HB hq_; have HO_19 := n0_; have BK157 := n1_; have BK161 := n2_; have HB := n3_; clear n0_ n1_ n2_ n3_)); have hnb31 := NB157_161.out; have hnc31 := NB161_157.out; obtain ⟨hcz32_0, hcz32_1, hcz32_2, hcz32_3, hcz32_4, hfz32_0, hfz32_1, hfz32_2, hfz32_3, hfz32_4⟩ := zc4_5 (w := wc) BK157.out))
      refine bodyPost_ret (results_ct rfl _ _ gb157 23 #[.int .i64 0, .int .i64 0, .int .i64 0, .int .i64 0, .int .i64 0] (0, 0) _ rfl (by refine zP4 ?_; refine blk_put (cs := #[.int .i64 0, .int .i64 0, .int .i64 0, .int .i64 0, .int .i64 x158004_1]) ?_ 4 _ rfl; refine zP4 ?_; refine blk_put (cs := #[.int .i64 0, .int .i64 0, .int .i64 0, .int .i64 x158003_1, .int .i64 x158004_1]) ?_ 3 _ rfl; refine zP4 ?_; refine blk_put (cs := #[.int .i64 0, .int .i64 0, .int .i64 x158002_1, .int .i64 x158003_1, .int .i64 x158004_1]) ?_ 2 _ rfl; refine zP4 ?_; refine blk_put (cs := #[.int .i64 0, .int .i64 x158001_1, .int .i64 x158002_1, .int .i64 x158003_1, .int .i64 x158004_1]) ?_ 1 _ rfl; refine zP4 ?_; refine blk_put (cs := #[.int .i64 x158000_1, .int .i64 x158001_1, .int .i64 x158002_1, .int .i64 x158003_1, .int .i64 x158004_1]) ?_ 0 _ rfl; refine zP4 ?_; exact BK157.out) Tryd.underlying23 rfl (by kernel_rfl)) rfl ?_
      exact ⟨zE4, zB4_2⟩
     subst c28
     have H1 : (impl_EventRead.l0 kj13 t158 (t158.length : Int) (wrap64 (x21_1 + 1)) (if x21_1 = 0 then x8_13 else x162000_1) (if x21_1 = 1 then x8_13 else x162001_1) (if x21_1 = 2 then x8_13 else x162002_1) (if x21_1 = 3 then x8_13 else x162003_1) (if x21_1 = 4 then x8_13 else x162004_1)) = some (r1, r2, r3, r4, r5, r6) := by rw [if_pos rfl] at H; exact H
     clear H
     have H := H1
     clear H1
     have hlo_ := HX0_.out; have hhi_ := HX1_.out; have h5_ := HT5_.out; have h2_ : ¬ x21_1 < 2 := of_decide_eq_false c16b0
     clear HX0_ HX1_
     rcases (show x21_1 = 2 ∨ x21_1 = 3 ∨ x21_1 = 4 by omega) with hq_ | hq_ | hq_
     ·subst hq_
      clear hlo_ hhi_ h5_ h2_
      rw [if_neg (show ¬ (2 : Int) = 0 by decide), if_neg (show ¬ (2 : Int) = 1 by decide), if_pos (show (2 : Int) = 2 from rfl), if_neg (show ¬ (2 : Int) = 3 by decide), if_neg (show ¬ (2 : Int) = 4 by decide)] at H
      have H' := Aside0.mk H
      clear H
      go_wp2_with (first | (go_at_call 18; (with_reducible refine (impl_from.calls x8_13 (-1) 65535 true _ A27.out).mono ?_); rintro e w' ⟨rfl, ⟨nd, rfl⟩⟩; (try (rw [drewN_self wc]; generalize hq_ : World.drewN wc _ = wc; have n0_ : Aside0 (Kd.R Kd.string 9 wc w.heap.size (fun _ => True) (.slice (some ad162) t158.length co6) t158) := ⟨by rw [← hq_]; exact (zR4 HO_19.out)⟩; have n1_ : Aside0 (wc.heap[gb157]? = some (.cells #[.int .i64 x158000_1, .int .i64 x158001_1, .int .i64 x158002_1, .int .i64 x158003_1, .int .i64 x158004_1] 23 (0, 0))) := ⟨by rw [← hq_]; exact (zK4 BK157.out)⟩; have n2_ : Aside0 (wc.heap[gb161]? = some (.cells #[.int .i64 x162000_1, .int .i64 x162001_1, .int .i64 x162002_1, .int .i64 x162003_1, .int .i64 x162004_1] 38 (0, 0))) := ⟨by rw [← hq_]; exact (zK4 BK161.out)⟩; have n3_ : Aside0 (Below w.heap.size w wc) := ⟨by rw [← hq_]; exact (zB4_2)⟩; clear HO_19 BK157 BK161 HB hq_; have HO_19 := n0_; have BK157 := n1_; have BK161 := n2_; have HB := n3_; clear n0_ n1_ n2_ n3_)); have hnb29 := NB161_157.out; have hnc29 := NB157_161.out; obtain ⟨hcz30_0, hcz30_1, hcz30_2, hcz30_3, hcz30_4, hfz30_0, hfz30_1, hfz30_2, hfz30_3, hfz30_4⟩ := zc4_5 (w := wc) BK161.out))
      go_roundg kj13
      case measure => have := HK1.out; have := HJ13.out; omega
      case rel => exact ⟨(wrap64 ((2 : Int) + 1)), (x158000_1), (x158001_1), (x158002_1), (x158003_1), (x158004_1), (x162000_1), (x162001_1), (x8_13), (x162003_1), (x162004_1), (by first | rfl | (simp; done) | (simp; unfold wrap64; omega) | (simp [*]; done)), H', ⟨by have := HK1.out; have := HJ13.out; omega⟩, ⟨by (with_reducible repeat (first | apply Kd.R_alloc | apply Kd.R_drewN | apply Kd.R_drew)); exact Kd.R_mono (Kd.R_far (p := ⟨gb161, 2, none⟩) (Kd.R_types HO_19.out BK161.out (by decide)) (fun _ hk => hk.2) (.int .i64 x8_13)) (fun _ hk => trivial)⟩, ⟨by refine zP4 ?_; refine blk_far ?_ NB157_161.out _; refine zP4 ?_; exact BK157.out⟩, ⟨by refine zP4 ?_; refine blk_put (cs := #[.int .i64 x162000_1, .int .i64 x162001_1, .int .i64 x162002_1, .int .i64 x162003_1, .int .i64 x162004_1]) ?_ 2 _ rfl; refine zP4 ?_; exact BK161.out⟩, ⟨zB4_2⟩⟩
     ·subst hq_
      clear hlo_ hhi_ h5_ h2_
      rw [if_neg (show ¬ (3 : Int) = 0 by decide), if_neg (show ¬ (3 : Int) = 1 by decide), if_neg (show ¬ (3 : Int) = 2 by decide), if_pos (show (3 : Int) = 3 from rfl), if_neg (show ¬ (3 : Int) = 4 by decide)] at H
      have H' := Aside0.mk H
      clear H
      go_wp2_with (first | (go_at_call 18; (with_reducible refine (impl_from.calls x8_13 (-1) 65535 true _ A27.out).mono ?_); rintro e w' ⟨rfl, ⟨nd, rfl⟩⟩; (try (rw [drewN_self wc]; generalize hq_ : World.drewN wc _ = wc; have n0_ : Aside0 (Kd.R Kd.string 9 wc w.heap.size (fun _ => True) (.slice (some ad162) t158.length co6) t158) := ⟨by rw [← hq_]; exact (zR4 HO_19.out)⟩; have n1_ : Aside0 (wc.heap[gb157]? = some (.cells #[.int .i64 x158000_1, .int .i64 x158001_1, .int .i64 x158002_1, .int .i64 x158003_1, .int .i64 x158004_1] 23 (0, 0))) := ⟨by rw [← hq_]; exact (zK4 BK157.out)⟩; have n2_ : Aside0 (wc.heap[gb161]? = some (.cells #[.int .i64 x162000_1, .int .i64 x162001_1, .int .i64 x162002_1, .int .i64 x162003_1, .int .i64 x162004_1] 38 (0, 0))) := ⟨by rw [← hq_]; exact (zK4 BK161.out)⟩; have n3_ : Aside0 (Below w.heap.size w wc) := ⟨by rw [← hq_]; exact (zB4_2)⟩; clear HO_19 BK157 BK161 HB hq_; have HO_19 := n0_; have BK157 := n1_; have BK161 := n2_; have HB := n3_; clear n0_ n1_ n2_ n3_)); have hnb29 := NB161_157.out; have hnc29 := NB157_161.out; obtain ⟨hcz30_0, hcz30_1, hcz30_2, hcz30_3, hcz30_4, hfz30_0, hfz30_1, hfz30_2, hfz30_3, hfz30_4⟩ := zc4_5 (w := wc) BK161.out))
      go_roundg kj13
      case measure => have := HK1.out; have := HJ13.out; omega
      case rel => exact ⟨(wrap64 ((3 : Int) + 1)), (x158000_1), (x158001_1), (x158002_1), (x158003_1), (x158004_1), (x162000_1), (x162001_1), (x162002_1), (x8_13), (x162004_1), (by first | rfl | (simp; done) | (simp; unfold wrap64; omega) | (simp [*]; done)), H', ⟨by have := HK1.out; have := HJ13.out; omega⟩, ⟨by (with_reducible repeat (first | apply Kd.R_alloc | apply Kd.R_drewN | apply Kd.R_drew)); exact Kd.R_mono (Kd.R_far (p := ⟨gb161, 3, none⟩) (Kd.R_types HO_19.out BK161.out (by decide)) (fun _ hk => hk.2) (.int .i64 x8_13)) (fun _ hk => trivial)⟩, ⟨by refine zP4 ?_; refine blk_far ?_ NB157_161.out _; refine zP4 ?_; exact BK157.out⟩, ⟨by refine zP4 ?_; refine blk_put (cs := #[.int .i64 x162000_1, .int .i64 x162001_1, .int .i64 x162002_1, .int .i64 x162003_1, .int .i64 x162004_1]) ?_ 3 _ rfl; refine zP4 ?_; exact BK161.out⟩, ⟨zB4_2⟩⟩
     ·subst hq_
      clear hlo_ hhi_ h5_ h2_
      rw [if_neg (show ¬ (4 : Int) = 0 by decide), if_neg (show ¬ (4 : Int) = 1 by decide), if_neg (show ¬ (4 : Int) = 2 by decide), if_neg (show ¬ (4 : Int) = 3 by decide), if_pos (show (4 : Int) = 4 from rfl)] at H
      have H' := Aside0.mk H
      clear H
      go_wp2_with (first | (go_at_call 18; (with_reducible refine (impl_from.calls x8_13 (-1) 65535 true _ A27.out).mono ?_); rintro e w' ⟨rfl, ⟨nd, rfl⟩⟩; (try (rw [drewN_self wc]; generalize hq_ : World.drewN wc _ = wc; have n0_ : Aside0 (Kd.R Kd.string 9 wc w.heap.size (fun _ => True) (.slice (some ad162) t158.length co6) t158) := ⟨by rw [← hq_]; exact (zR4 HO_19.out)⟩; have n1_ : Aside0 (wc.heap[gb157]? = some (.cells #[.int .i64 x158000_1, .int .i64 x158001_1, .int .i64 x158002_1, .int .i64 x158003_1, .int .i64 x158004_1] 23 (0, 0))) := ⟨by rw [← hq_]; exact (zK4 BK157.out)⟩; have n2_ : Aside0 (wc.heap[gb161]? = some (.cells #[.int .i64 x162000_1, .int .i64 x162001_1, .int .i64 x162002_1, .int .i64 x162003_1, .int .i64 x162004_1] 38 (0, 0))) := ⟨by rw [← hq_]; exact (zK4 BK161.out)⟩; have n3_ : Aside0 (Below w.heap.size w wc) := ⟨by rw [← hq_]; exact (zB4_2)⟩; clear HO_19 BK157 BK161 HB hq_; have HO_19 := n0_; have BK157 := n1_; have BK161 := n2_; have HB := n3_; clear n0_ n1_ n2_ n3_)); have hnb29 := NB161_157.out; have hnc29 := NB157_161.out; obtain ⟨hcz30_0, hcz30_1, hcz30_2, hcz30_3, hcz30_4, hfz30_0, hfz30_1, hfz30_2, hfz30_3, hfz30_4⟩ := zc4_5 (w := wc) BK161.out))
      go_roundg kj13
      case measure => have := HK1.out; have := HJ13.out; omega
      case rel => exact ⟨(wrap64 ((4 : Int) + 1)), (x158000_1), (x158001_1), (x158002_1), (x158003_1), (x158004_1), (x162000_1), (x162001_1), (x162002_1), (x162003_1), (x8_13), (by first | rfl | (simp; done) | (simp; unfold wrap64; omega) | (simp [*]; done)), H', ⟨by have := HK1.out; have := HJ13.out; omega⟩, ⟨by (with_reducible repeat (first | apply Kd.R_alloc | apply Kd.R_drewN | apply Kd.R_drew)); exact Kd.R_mono (Kd.R_far (p := ⟨gb161, 4, none⟩) (Kd.R_types HO_19.out BK161.out (by decide)) (fun _ hk => hk.2) (.int .i64 x8_13)) (fun _ hk => trivial)⟩, ⟨by refine zP4 ?_; refine blk_far ?_ NB157_161.out _; refine zP4 ?_; exact BK157.out⟩, ⟨by refine zP4 ?_; refine blk_put (cs := #[.int .i64 x162000_1, .int .i64 x162001_1, .int .i64 x162002_1, .int .i64 x162003_1, .int .i64 x162004_1]) ?_ 4 _ rfl; refine zP4 ?_; exact BK161.out⟩, ⟨zB4_2⟩⟩

/-! ### laws_eqEvent: function 7 -/
def laws_eqEvent.f (a0_0 : Int) (a0_1 : Int) (a0_2 : Int) (a0_3 : Int) (a0_4 : Int) (a1_0 : Int) (a1_1 : Int) (a1_2 : Int) (a1_3 : Int) (a1_4 : Int) : Option (Bool) := if a0_0 = a1_0 then (if a0_1 = a1_1 then (if a0_2 = a1_2 then (if a0_3 = a1_3 then (if a0_4 = a1_4 then (some true) else (some false)) else (some false)) else (some false)) else (some false)) else (some false)
set_option maxHeartbeats 8000000 in
set_option maxRecDepth 100000 in
theorem laws_eqEvent.calls (a0_0 : Int) (a0_1 : Int) (a0_2 : Int) (a0_3 : Int) (a0_4 : Int) (a1_0 : Int) (a1_1 : Int) (a1_2 : Int) (a1_3 : Int) (a1_4 : Int) (r : Bool) (w : World) (h : laws_eqEvent.f a0_0 a0_1 a0_2 a0_3 a0_4 a1_0 a1_1 a1_2 a1_3 a1_4 = some r) :
  Calls Tryd.prog 7 #[.agg #[.int .i64 a0_0, .int .i64 a0_1, .int .i64 a0_2, .int .i64 a0_3, .int .i64 a0_4], .agg #[.int .i64 a1_0, .int .i64 a1_1, .int .i64 a1_2, .int .i64 a1_3, .int .i64 a1_4]] w fun e w' => e = .returned (.bool r) ∧ Below w.heap.size w w' := by
 have hu23 := Tryd.underlying23
 have HB := Aside0.mk (Below.refl w.heap.size w)
 have H : (if a0_0 = a1_0 then (if a0_1 = a1_1 then (if a0_2 = a1_2 then (if a0_3 = a1_3 then (if a0_4 = a1_4 then (some true) else (some false)) else (some false)) else (some false)) else (some false)) else (some false)) = some r := h
 clear h
 by_cases c3 : a0_0 = a1_0
 rotate_left
 ·rw [if_neg c3] at H
  have c3b0 : (a0_0 == a1_0) = false := beq_eq_false_iff_ne.mpr c3
  have c3b1 : (a0_0 != a1_0) = true := bne_iff_ne.mpr c3
  obtain rfl := Option.some.inj H
  go_enter Tryd.func7, Tryd.ntmps7
  go_wp2_with (first | ((with_reducible refine gate_dst (N := 2) rfl ?_); refine box_event ?hg (N := 2) ?hd (cs := #[.int .i64 a0_0, .int .i64 a0_1, .int .i64 a0_2, .int .i64 a0_3, .int .i64 a0_4]) (t := 23) ?hr ?_; (case hd => rfl); (case hg => rfl); (case hr => first | (go_simp; done) | (go_simp; rfl)); intro gb167 hg w33 hbox hb; have n0_ := Aside0.mk (below_step (zB4_0) hb); have n1_ := Aside0.mk (hbox); have n2_ := Aside0.mk ((by rw [hg]; exact (below_size (zB4_0)) : w.heap.size ≤ gb167)); have n3_ := Aside0.mk ((by rw [hg]; exact (below_size (zB4_0)) : w.heap.size ≤ gb167)); clear HB; have HB := n0_; have BK167 := n1_; have GW167 := n2_; have GE167 := n3_; clear n0_ n1_ n2_ n3_; clear hb hbox hg) | ((with_reducible refine gate_dst (N := 3) rfl ?_); refine box_event ?hg (N := 3) ?hd (cs := #[.int .i64 a1_0, .int .i64 a1_1, .int .i64 a1_2, .int .i64 a1_3, .int .i64 a1_4]) (t := 23) ?hr ?_; (case hd => rfl); (case hg => rfl); (case hr => first | (go_simp; done) | (go_simp; rfl)); intro gb168 hg w34 hbox hb; have n0_ := Aside0.mk (zb4 BK167.out hb); have n1_ := Aside0.mk (below_step (zB4_3) hb); have n2_ := Aside0.mk (hbox); have n3_ := Aside0.mk ((by rw [hg]; exact (below_size (zB4_3)) : w.heap.size ≤ gb168)); have n4_ := Aside0.mk ((by rw [hg]; exact (below_size (zB4_3)) : w.heap.size ≤ gb168)); have n5_ := Aside0.mk ((zn4 BK167.out hg : gb167 ≠ gb168)); have n6_ := Aside0.mk ((zm4 BK167.out hg : gb168 ≠ gb167)); clear BK167; clear HB; have BK167 := n0_; have HB := n1_; have BK168 := n2_; have GW168 := n3_; have GE168 := n4_; have NB167_168 := n5_; have NB168_167 := n6_; clear n0_ n1_ n2_ n3_ n4_ n5_ n6_; clear hb hbox hg; have hnb35 := NB167_168.out; have hnc35 := NB168_167.out; obtain ⟨hcz36_0, hcz36_1, hcz36_2, hcz36_3, hcz36_4, hfz36_0, hfz36_1, hfz36_2, hfz36_3, hfz36_4⟩ := zc4_5 (w := w34) BK167.out; obtain ⟨hcz37_0, hcz37_1, hcz37_2, hcz37_3, hcz37_4, hfz37_0, hfz37_1, hfz37_2, hfz37_3, hfz37_4⟩ := zc4_5 (w := w34) BK168.out))
  go_ret
  exact ⟨zE4, zB4_4⟩
 rw [if_pos c3] at H
 have c3b0 : (a0_0 == a1_0) = true := beq_iff_eq.mpr c3
 have c3b1 : (a0_0 != a1_0) = false := bne_eq_false_iff_eq.mpr c3
 clear c3
 by_cases c4 : a0_1 = a1_1
 rotate_left
 ·rw [if_neg c4] at H
  have c4b0 : (a0_1 == a1_1) = false := beq_eq_false_iff_ne.mpr c4
  have c4b1 : (a0_1 != a1_1) = true := bne_iff_ne.mpr c4
  obtain rfl := Option.some.inj H
  go_enter Tryd.func7, Tryd.ntmps7
  go_wp2_with (first | ((with_reducible refine gate_dst (N := 2) rfl ?_); refine box_event ?hg (N := 2) ?hd (cs := #[.int .i64 a0_0, .int .i64 a0_1, .int .i64 a0_2, .int .i64 a0_3, .int .i64 a0_4]) (t := 23) ?hr ?_; (case hd => rfl); (case hg => rfl); (case hr => first | (go_simp; done) | (go_simp; rfl)); intro gb167 hg w28 hbox hb; have n0_ := Aside0.mk (below_step (zB4_0) hb); have n1_ := Aside0.mk (hbox); have n2_ := Aside0.mk ((by rw [hg]; exact (below_size (zB4_0)) : w.heap.size ≤ gb167)); have n3_ := Aside0.mk ((by rw [hg]; exact (below_size (zB4_0)) : w.heap.size ≤ gb167)); clear HB; have HB := n0_; have BK167 := n1_; have GW167 := n2_; have GE167 := n3_; clear n0_ n1_ n2_ n3_; clear hb hbox hg) | ((with_reducible refine gate_dst (N := 3) rfl ?_); refine box_event ?hg (N := 3) ?hd (cs := #[.int .i64 a1_0, .int .i64 a1_1, .int .i64 a1_2, .int .i64 a1_3, .int .i64 a1_4]) (t := 23) ?hr ?_; (case hd => rfl); (case hg => rfl); (case hr => first | (go_simp; done) | (go_simp; rfl)); intro gb168 hg w29 hbox hb; have n0_ := Aside0.mk (zb4 BK167.out hb); have n1_ := Aside0.mk (below_step (zB4_3) hb); have n2_ := Aside0.mk (hbox); have n3_ := Aside0.mk ((by rw [hg]; exact (below_size (zB4_3)) : w.heap.size ≤ gb168)); have n4_ := Aside0.mk ((by rw [hg]; exact (below_size (zB4_3)) : w.heap.size ≤ gb168)); have n5_ := Aside0.mk ((zn4 BK167.out hg : gb167 ≠ gb168)); have n6_ := Aside0.mk ((zm4 BK167.out hg : gb168 ≠ gb167)); clear BK167; clear HB; have BK167 := n0_; have HB := n1_; have BK168 := n2_; have GW168 := n3_; have GE168 := n4_; have NB167_168 := n5_; have NB168_167 := n6_; clear n0_ n1_ n2_ n3_ n4_ n5_ n6_; clear hb hbox hg; have hnb30 := NB167_168.out; have hnc30 := NB168_167.out; obtain ⟨hcz31_0, hcz31_1, hcz31_2, hcz31_3, hcz31_4, hfz31_0, hfz31_1, hfz31_2, hfz31_3, hfz31_4⟩ := zc4_5 (w := w29) BK167.out; obtain ⟨hcz32_0, hcz32_1, hcz32_2, hcz32_3, hcz32_4, hfz32_0, hfz32_1, hfz32_2, hfz32_3, hfz32_4⟩ := zc4_5 (w := w29) BK168.out))
  go_ret
  exact ⟨zE4, zB4_4⟩
 rw [if_pos c4] at H
 have c4b0 : (a0_1 == a1_1) = true := beq_iff_eq.mpr c4
 have c4b1 : (a0_1 != a1_1) = false := bne_eq_false_iff_eq.mpr c4
 clear c4
 by_cases c5 : a0_2 = a1_2
 rotate_left
 ·rw [if_neg c5] at H
  have c5b0 : (a0_2 == a1_2) = false := beq_eq_false_iff_ne.mpr c5
  have c5b1 : (a0_2 != a1_2) = true := bne_iff_ne.mpr c5
  obtain rfl := Option.some.inj H
  go_enter Tryd.func7, Tryd.ntmps7
  go_wp2_with (first | ((with_reducible refine gate_dst (N := 2) rfl ?_); refine box_event ?hg (N := 2) ?hd (cs := #[.int .i64 a0_0, .int .i64 a0_1, .int .i64 a0_2, .int .i64 a0_3, .int .i64 a0_4]) (t := 23) ?hr ?_; (case hd => rfl); (case hg => rfl); (case hr => first | (go_simp; done) | (go_simp; rfl)); intro gb167 hg w23 hbox hb; have n0_ := Aside0.mk (below_step (zB4_0) hb); have n1_ := Aside0.mk (hbox); have n2_ := Aside0.mk ((by rw [hg]; exact (below_size (zB4_0)) : w.heap.size ≤ gb167)); have n3_ := Aside0.mk ((by rw [hg]; exact (below_size (zB4_0)) : w.heap.size ≤ gb167)); clear HB; have HB := n0_; have BK167 := n1_; have GW167 := n2_; have GE167 := n3_; clear n0_ n1_ n2_ n3_; clear hb hbox hg) | ((with_reducible refine gate_dst (N := 3) rfl ?_); refine box_event ?hg (N := 3) ?hd (cs := #[.int .i64 a1_0, .int .i64 a1_1, .int .i64 a1_2, .int .i64 a1_3, .int .i64 a1_4]) (t := 23) ?hr ?_; (case hd => rfl); (case hg => rfl); (case hr => first | (go_simp; done) | (go_simp; rfl)); intro gb168 hg w24 hbox hb; have n0_ := Aside0.mk (zb4 BK167.out hb); have n1_ := Aside0.mk (below_step (zB4_3) hb); have n2_ := Aside0.mk (hbox); have n3_ := Aside0.mk ((by rw [hg]; exact (below_size (zB4_3)) : w.heap.size ≤ gb168)); have n4_ := Aside0.mk ((by rw [hg]; exact (below_size (zB4_3)) : w.heap.size ≤ gb168)); have n5_ := Aside0.mk ((zn4 BK167.out hg : gb167 ≠ gb168)); have n6_ := Aside0.mk ((zm4 BK167.out hg : gb168 ≠ gb167)); clear BK167; clear HB; have BK167 := n0_; have HB := n1_; have BK168 := n2_; have GW168 := n3_; have GE168 := n4_; have NB167_168 := n5_; have NB168_167 := n6_; clear n0_ n1_ n2_ n3_ n4_ n5_ n6_; clear hb hbox hg; have hnb25 := NB167_168.out; have hnc25 := NB168_167.out; obtain ⟨hcz26_0, hcz26_1, hcz26_2, hcz26_3, hcz26_4, hfz26_0, hfz26_1, hfz26_2, hfz26_3, hfz26_4⟩ := zc4_5 (w := w24) BK167.out; obtain ⟨hcz27_0, hcz27_1, hcz27_2, hcz27_3, hcz27_4, hfz27_0, hfz27_1, hfz27_2, hfz27_3, hfz27_4⟩ := zc4_5 (w := w24) BK168.out))
  go_ret
  exact ⟨zE4, zB4_4⟩
 rw [if_pos c5] at H
 have c5b0 : (a0_2 == a1_2) = true := beq_iff_eq.mpr c5
 have c5b1 : (a0_2 != a1_2) = false := bne_eq_false_iff_eq.mpr c5
 clear c5
 by_cases c6 : a0_3 = a1_3
 rotate_left
 ·rw [if_neg c6] at H
  have c6b0 : (a0_3 == a1_3) = false := beq_eq_false_iff_ne.mpr c6
  have c6b1 : (a0_3 != a1_3) = true := bne_iff_ne.mpr c6
  obtain rfl := Option.some.inj H
  go_enter Tryd.func7, Tryd.ntmps7
  go_wp2_with (first | ((with_reducible refine gate_dst (N := 2) rfl ?_); refine box_event ?hg (N := 2) ?hd (cs := #[.int .i64 a0_0, .int .i64 a0_1, .int .i64 a0_2, .int .i64 a0_3, .int .i64 a0_4]) (t := 23) ?hr ?_; (case hd => rfl); (case hg => rfl); (case hr => first | (go_simp; done) | (go_simp; rfl)); intro gb167 hg w18 hbox hb; have n0_ := Aside0.mk (below_step (zB4_0) hb); have n1_ := Aside0.mk (hbox); have n2_ := Aside0.mk ((by rw [hg]; exact (below_size (zB4_0)) : w.heap.size ≤ gb167)); have n3_ := Aside0.mk ((by rw [hg]; exact (below_size (zB4_0)) : w.heap.size ≤ gb167)); clear HB; have HB := n0_; have BK167 := n1_; have GW167 := n2_; have GE167 := n3_; clear n0_ n1_ n2_ n3_; clear hb hbox hg) | ((with_reducible refine gate_dst (N := 3) rfl ?_); refine box_event ?hg (N := 3) ?hd (cs := #[.int .i64 a1_0, .int .i64 a1_1, .int .i64 a1_2, .int .i64 a1_3, .int .i64 a1_4]) (t := 23) ?hr ?_; (case hd => rfl); (case hg => rfl); (case hr => first | (go_simp; done) | (go_simp; rfl)); intro gb168 hg w19 hbox hb; have n0_ := Aside0.mk (zb4 BK167.out hb); have n1_ := Aside0.mk (below_step (zB4_3) hb); have n2_ := Aside0.mk (hbox); have n3_ := Aside0.mk ((by rw [hg]; exact (below_size (zB4_3)) : w.heap.size ≤ gb168)); have n4_ := Aside0.mk ((by rw [hg]; exact (below_size (zB4_3)) : w.heap.size ≤ gb168)); have n5_ := Aside0.mk ((zn4 BK167.out hg : gb167 ≠ gb168)); have n6_ := Aside0.mk ((zm4 BK167.out hg : gb168 ≠ gb167)); clear BK167; clear HB; have BK167 := n0_; have HB := n1_; have BK168 := n2_; have GW168 := n3_; have GE168 := n4_; have NB167_168 := n5_; have NB168_167 := n6_; clear n0_ n1_ n2_ n3_ n4_ n5_ n6_; clear hb hbox hg; have hnb20 := NB167_168.out; have hnc20 := NB168_167.out; obtain ⟨hcz21_0, hcz21_1, hcz21_2, hcz21_3, hcz21_4, hfz21_0, hfz21_1, hfz21_2, hfz21_3, hfz21_4⟩ := zc4_5 (w := w19) BK167.out; obtain ⟨hcz22_0, hcz22_1, hcz22_2, hcz22_3, hcz22_4, hfz22_0, hfz22_1, hfz22_2, hfz22_3, hfz22_4⟩ := zc4_5 (w := w19) BK168.out))
  go_ret
  exact ⟨zE4, zB4_4⟩
 rw [if_pos c6] at H
 have c6b0 : (a0_3 == a1_3) = true := beq_iff_eq.mpr c6
 have c6b1 : (a0_3 != a1_3) = false := bne_eq_false_iff_eq.mpr c6
 clear c6
 by_cases c7 : a0_4 = a1_4
 rotate_left
 ·rw [if_neg c7] at H
  have c7b0 : (a0_4 == a1_4) = false := beq_eq_false_iff_ne.mpr c7
  have c7b1 : (a0_4 != a1_4) = true := bne_iff_ne.mpr c7
  obtain rfl := Option.some.inj H
  go_enter Tryd.func7, Tryd.ntmps7
  go_wp2_with (first | ((with_reducible refine gate_dst (N := 2) rfl ?_); refine box_event ?hg (N := 2) ?hd (cs := #[.int .i64 a0_0, .int .i64 a0_1, .int .i64 a0_2, .int .i64 a0_3, .int .i64 a0_4]) (t := 23) ?hr ?_; (case hd => rfl); (case hg => rfl); (case hr => first | (go_simp; done) | (go_simp; rfl)); intro gb167 hg w13 hbox hb; have n0_ := Aside0.mk (below_step (zB4_0) hb); have n1_ := Aside0.mk (hbox); have n2_ := Aside0.mk ((by rw [hg]; exact (below_size (zB4_0)) : w.heap.size ≤ gb167)); have n3_ := Aside0.mk ((by rw [hg]; exact (below_size (zB4_0)) : w.heap.size ≤ gb167)); clear HB; have HB := n0_; have BK167 := n1_; have GW167 := n2_; have GE167 := n3_; clear n0_ n1_ n2_ n3_; clear hb hbox hg) | ((with_reducible refine gate_dst (N := 3) rfl ?_); refine box_event ?hg (N := 3) ?hd (cs := #[.int .i64 a1_0, .int .i64 a1_1, .int .i64 a1_2, .int .i64 a1_3, .int .i64 a1_4]) (t := 23) ?hr ?_; (case hd => rfl); (case hg => rfl); (case hr => first | (go_simp; done) | (go_simp; rfl)); intro gb168 hg w14 hbox hb; have n0_ := Aside0.mk (zb4 BK167.out hb); have n1_ := Aside0.mk (below_step (zB4_3) hb); have n2_ := Aside0.mk (hbox); have n3_ := Aside0.mk ((by rw [hg]; exact (below_size (zB4_3)) : w.heap.size ≤ gb168)); have n4_ := Aside0.mk ((by rw [hg]; exact (below_size (zB4_3)) : w.heap.size ≤ gb168)); have n5_ := Aside0.mk ((zn4 BK167.out hg : gb167 ≠ gb168)); have n6_ := Aside0.mk ((zm4 BK167.out hg : gb168 ≠ gb167)); clear BK167; clear HB; have BK167 := n0_; have HB := n1_; have BK168 := n2_; have GW168 := n3_; have GE168 := n4_; have NB167_168 := n5_; have NB168_167 := n6_; clear n0_ n1_ n2_ n3_ n4_ n5_ n6_; clear hb hbox hg; have hnb15 := NB167_168.out; have hnc15 := NB168_167.out; obtain ⟨hcz16_0, hcz16_1, hcz16_2, hcz16_3, hcz16_4, hfz16_0, hfz16_1, hfz16_2, hfz16_3, hfz16_4⟩ := zc4_5 (w := w14) BK167.out; obtain ⟨hcz17_0, hcz17_1, hcz17_2, hcz17_3, hcz17_4, hfz17_0, hfz17_1, hfz17_2, hfz17_3, hfz17_4⟩ := zc4_5 (w := w14) BK168.out))
  go_ret
  exact ⟨zE4, zB4_4⟩
 rw [if_pos c7] at H
 have c7b0 : (a0_4 == a1_4) = true := beq_iff_eq.mpr c7
 have c7b1 : (a0_4 != a1_4) = false := bne_eq_false_iff_eq.mpr c7
 clear c7
 obtain rfl := Option.some.inj H
 go_enter Tryd.func7, Tryd.ntmps7
 go_wp2_with (first | ((with_reducible refine gate_dst (N := 2) rfl ?_); refine box_event ?hg (N := 2) ?hd (cs := #[.int .i64 a0_0, .int .i64 a0_1, .int .i64 a0_2, .int .i64 a0_3, .int .i64 a0_4]) (t := 23) ?hr ?_; (case hd => rfl); (case hg => rfl); (case hr => first | (go_simp; done) | (go_simp; rfl)); intro gb167 hg w8 hbox hb; have n0_ := Aside0.mk (below_step (zB4_0) hb); have n1_ := Aside0.mk (hbox); have n2_ := Aside0.mk ((by rw [hg]; exact (below_size (zB4_0)) : w.heap.size ≤ gb167)); have n3_ := Aside0.mk ((by rw [hg]; exact (below_size (zB4_0)) : w.heap.size ≤ gb167)); clear HB; have HB := n0_; have BK167 := n1_; have GW167 := n2_; have GE167 := n3_; clear n0_ n1_ n2_ n3_; clear hb hbox hg) | ((with_reducible refine gate_dst (N := 3) rfl ?_); refine box_event ?hg (N := 3) ?hd (cs := #[.int .i64 a1_0, .int .i64 a1_1, .int .i64 a1_2, .int .i64 a1_3, .int .i64 a1_4]) (t := 23) ?hr ?_; (case hd => rfl); (case hg => rfl); (case hr => first | (go_simp; done) | (go_simp; rfl)); intro gb168 hg w9 hbox hb; have n0_ := Aside0.mk (zb4 BK167.out hb); have n1_ := Aside0.mk (below_step (zB4_3) hb); have n2_ := Aside0.mk (hbox); have n3_ := Aside0.mk ((by rw [hg]; exact (below_size (zB4_3)) : w.heap.size ≤ gb168)); have n4_ := Aside0.mk ((by rw [hg]; exact (below_size (zB4_3)) : w.heap.size ≤ gb168)); have n5_ := Aside0.mk ((zn4 BK167.out hg : gb167 ≠ gb168)); have n6_ := Aside0.mk ((zm4 BK167.out hg : gb168 ≠ gb167)); clear BK167; clear HB; have BK167 := n0_; have HB := n1_; have BK168 := n2_; have GW168 := n3_; have GE168 := n4_; have NB167_168 := n5_; have NB168_167 := n6_; clear n0_ n1_ n2_ n3_ n4_ n5_ n6_; clear hb hbox hg; have hnb10 := NB167_168.out; have hnc10 := NB168_167.out; obtain ⟨hcz11_0, hcz11_1, hcz11_2, hcz11_3, hcz11_4, hfz11_0, hfz11_1, hfz11_2, hfz11_3, hfz11_4⟩ := zc4_5 (w := w9) BK167.out; obtain ⟨hcz12_0, hcz12_1, hcz12_2, hcz12_3, hcz12_4, hfz12_0, hfz12_1, hfz12_2, hfz12_3, hfz12_4⟩ := zc4_5 (w := w9) BK168.out))
 go_ret
 exact ⟨zE4, zB4_4⟩

/-! ### laws_FnExactEventRead: function 3 -/
def laws_FnExactEventRead.f (k : Nat) (a0 : ByteArray) : Option (Bool) := if (a0.size : Int) > 1048576 then (some true) else ((spec_EventRead.f k a0).bind fun bt169 => ((impl_EventRead.f k a0).bind fun bt176 => ((laws_eqEvent.f bt176.1 bt176.2.1 bt176.2.2.1 bt176.2.2.2.1 bt176.2.2.2.2.1 bt169.1 bt169.2.1 bt169.2.2.1 bt169.2.2.2.1 bt169.2.2.2.2.1).bind fun t183 => (if t183 = true then (if (bt176.2.2.2.2.2 != bt169.2.2.2.2.2) = true then (some false) else (some true)) else (some false)))))
theorem laws_FnExactEventRead.mono : ∀ a0 k, LeO (laws_FnExactEventRead.f k a0) (laws_FnExactEventRead.f (k + 1) a0) := by
 intro a0 k
 unfold laws_FnExactEventRead.f
 repeat' first
   | (with_reducible exact impl_EventRead.mono _ _)
   | (with_reducible exact spec_EventRead.mono _ _)
   | (with_reducible exact LeO.refl _)
   | (with_reducible exact LeO.none _)
   | (with_reducible refine LeO.ite ?_ ?_)
   | (with_reducible refine LeO.bind ?_ (fun _ => ?_))
   | exact impl_EventRead.mono _ _
   | exact spec_EventRead.mono _ _
   | exact LeO.none _
   | refine LeO.ite ?_ ?_
   | refine LeO.bind ?_ (fun _ => ?_)
set_option maxHeartbeats 8000000 in
set_option maxRecDepth 100000 in
theorem laws_FnExactEventRead.calls (k : Nat) (a0 : ByteArray) (r : Bool) (w : World) (h : laws_FnExactEventRead.f k a0 = some r) :
  Calls Tryd.prog 3 #[.string a0] w fun e w' => e = .returned (.bool r) ∧ Below w.heap.size w w' := by
 have hu23 := Tryd.underlying23
 have HB := Aside0.mk (Below.refl w.heap.size w)
 have H : (if (a0.size : Int) > 1048576 then (some true) else ((spec_EventRead.f k a0).bind fun bt169 => ((impl_EventRead.f k a0).bind fun bt176 => ((laws_eqEvent.f bt176.1 bt176.2.1 bt176.2.2.1 bt176.2.2.2.1 bt176.2.2.2.2.1 bt169.1 bt169.2.1 bt169.2.2.1 bt169.2.2.2.1 bt169.2.2.2.2.1).bind fun t183 => (if t183 = true then (if (bt176.2.2.2.2.2 != bt169.2.2.2.2.2) = true then (some false) else (some true)) else (some false)))))) = some r := h
 clear h
 by_cases c2 : (a0.size : Int) > 1048576
 ·rw [if_pos c2] at H
  have c2b0 : decide (1048576 < (a0.size : Int)) = true := decide_eq_true c2
  have c2b1 : decide (1048576 < a0.size) = true := decide_eq_true (by omega)
  clear c2
  obtain rfl := Option.some.inj H
  go_enter Tryd.func3, Tryd.ntmps3
  go_wp2
  go_ret
  exact ⟨zE4, zB4_0⟩
 rw [if_neg c2] at H
 have c2b0 : decide (1048576 < (a0.size : Int)) = false := decide_eq_false c2
 have c2b1 : decide (1048576 < a0.size) = false := decide_eq_false (by omega)
 clear c2
 replace H := Option.bind_eq_some_iff.mp H
 obtain ⟨⟨t169, t170, t171, t172, t173, t174⟩, A30, H⟩ := H
 replace H : ((impl_EventRead.f k a0).bind fun bt176 => ((laws_eqEvent.f bt176.1 bt176.2.1 bt176.2.2.1 bt176.2.2.2.1 bt176.2.2.2.2.1 t169 t170 t171 t172 t173).bind fun t183 => (if t183 = true then (if (bt176.2.2.2.2.2 != t174) = true then (some false) else (some true)) else (some false)))) = some r := H
 have A3 := Aside0.mk A30
 clear A30
 replace H := Option.bind_eq_some_iff.mp H
 obtain ⟨⟨t176, t177, t178, t179, t180, t181⟩, A40, H⟩ := H
 replace H : ((laws_eqEvent.f t176 t177 t178 t179 t180 t169 t170 t171 t172 t173).bind fun t183 => (if t183 = true then (if (t181 != t174) = true then (some false) else (some true)) else (some false))) = some r := H
 have A4 := Aside0.mk A40
 clear A40
 replace H := Option.bind_eq_some_iff.mp H
 obtain ⟨t183, A50, H⟩ := H
 replace H : (if t183 = true then (if (t181 != t174) = true then (some false) else (some true)) else (some false)) = some r := H
 have A5 := Aside0.mk A50
 clear A50
 by_cases c6 : t183 = true
 rotate_left
 ·replace c6 := Bool.eq_false_iff.mpr c6
  subst c6
  have H1 : (some false) = some r := by rw [if_neg (show ¬ (false = true) by decide)] at H; exact H
  clear H
  have H := H1
  clear H1
  obtain rfl := Option.some.inj H
  go_enter Tryd.func3, Tryd.ntmps3
  go_wp2_with (first | ((with_reducible refine gate_callee (f := 5) rfl ?_); refine goesL_ (some 12) rfl rfl Tryd.func5 (by kernel_rfl) rfl #[.string a0] rfl zT4 ?_; (with_reducible refine (spec_EventRead.calls k a0 t169 t170 t171 t172 t173 t174 _ A3.out).mono ?_); rintro e w26 ⟨rfl, hb⟩; refine ⟨_, rfl, ?_⟩; have n0_ := Aside0.mk (below_step (zB4_0) hb); clear HB; have HB := n0_; clear n0_; (try clear hb); (try clear hb2); (try clear hk); (try clear hi)) | ((with_reducible refine gate_dst (N := 3) rfl ?_); refine box_event ?hg (N := 3) ?hd (cs := #[.int .i64 0, .int .i64 0, .int .i64 0, .int .i64 0, .int .i64 0]) (t := 23) ?hr ?_; (case hd => rfl); (case hg => rfl); (case hr => first | (go_simp; done) | (go_simp; rfl)); intro gb175 hg w27 hbox hb; have n0_ := Aside0.mk (below_step (zB4_0) hb); have n1_ := Aside0.mk (hbox); have n2_ := Aside0.mk ((by rw [hg]; exact (below_size (zB4_0)) : w.heap.size ≤ gb175)); have n3_ := Aside0.mk ((by rw [hg]; exact (below_size (zB4_0)) : w.heap.size ≤ gb175)); clear HB; have HB := n0_; have BK175 := n1_; have GW175 := n2_; have GE175 := n3_; clear n0_ n1_ n2_ n3_; clear hb hbox hg; obtain ⟨hcz28_0, hcz28_1, hcz28_2, hcz28_3, hcz28_4, hfz28_0, hfz28_1, hfz28_2, hfz28_3, hfz28_4⟩ := zc4_5 (w := w27) BK175.out) | ((with_reducible refine gate_callee (f := 6) rfl ?_); refine goesL_ (some 17) rfl rfl Tryd.func6 (by kernel_rfl) rfl #[.string a0] rfl zT4 ?_; (with_reducible refine (impl_EventRead.calls k a0 t176 t177 t178 t179 t180 t181 _ A4.out).mono ?_); rintro e w29 ⟨rfl, hb⟩; refine ⟨_, rfl, ?_⟩; have n0_ := Aside0.mk (blk_below (g := gb175) (o := .cells #[.int .i64 t169, .int .i64 t170, .int .i64 t171, .int .i64 t172, .int .i64 t173] 23 (0, 0)) (by refine zP4 ?_; refine blk_put (cs := #[.int .i64 t169, .int .i64 t170, .int .i64 t171, .int .i64 t172, .int .i64 0]) ?_ 4 _ rfl; refine zP4 ?_; refine blk_put (cs := #[.int .i64 t169, .int .i64 t170, .int .i64 t171, .int .i64 0, .int .i64 0]) ?_ 3 _ rfl; refine zP4 ?_; refine blk_put (cs := #[.int .i64 t169, .int .i64 t170, .int .i64 0, .int .i64 0, .int .i64 0]) ?_ 2 _ rfl; refine zP4 ?_; refine blk_put (cs := #[.int .i64 t169, .int .i64 0, .int .i64 0, .int .i64 0, .int .i64 0]) ?_ 1 _ rfl; refine zP4 ?_; refine blk_put (cs := #[.int .i64 0, .int .i64 0, .int .i64 0, .int .i64 0, .int .i64 0]) ?_ 0 _ rfl; refine zP4 ?_; exact BK175.out) hb); have n1_ := Aside0.mk (below_step (zB4_5) hb); clear BK175; clear HB; have BK175 := n0_; have HB := n1_; clear n0_ n1_; (try clear hb); (try clear hb2); (try clear hk); (try clear hi)) | ((with_reducible refine gate_dst (N := 5) rfl ?_); refine box_event ?hg (N := 5) ?hd (cs := #[.int .i64 0, .int .i64 0, .int .i64 0, .int .i64 0, .int .i64 0]) (t := 23) ?hr ?_; (case hd => rfl); (case hg => rfl); (case hr => first | (go_simp; done) | (go_simp; rfl)); intro gb182 hg w30 hbox hb; have n0_ := Aside0.mk (zb4 BK175.out hb); have n1_ := Aside0.mk (below_step (zB4_5) hb); have n2_ := Aside0.mk (hbox); have n3_ := Aside0.mk ((by rw [hg]; exact (below_size (zB4_5)) : w.heap.size ≤ gb182)); have n4_ := Aside0.mk ((by rw [hg]; exact (below_size (zB4_5)) : w.heap.size ≤ gb182)); have n5_ := Aside0.mk ((zn4 BK175.out hg : gb175 ≠ gb182)); have n6_ := Aside0.mk ((zm4 BK175.out hg : gb182 ≠ gb175)); clear BK175; clear HB; have BK175 := n0_; have HB := n1_; have BK182 := n2_; have GW182 := n3_; have GE182 := n4_; have NB175_182 := n5_; have NB182_175 := n6_; clear n0_ n1_ n2_ n3_ n4_ n5_ n6_; clear hb hbox hg; have hnb31 := NB182_175.out; have hnc31 := NB175_182.out; obtain ⟨hcz32_0, hcz32_1, hcz32_2, hcz32_3, hcz32_4, hfz32_0, hfz32_1, hfz32_2, hfz32_3, hfz32_4⟩ := zc4_5 (w := w30) BK182.out; obtain ⟨hcz33_0, hcz33_1, hcz33_2, hcz33_3, hcz33_4, hfz33_0, hfz33_1, hfz33_2, hfz33_3, hfz33_4⟩ := zc4_5 (w := w30) BK175.out) | ((with_reducible refine gate_callee (f := 7) rfl ?_); refine goesL_ (some 22) rfl rfl Tryd.func7 (by kernel_rfl) rfl #[.agg #[.int .i64 t176, .int .i64 t177, .int .i64 t178, .int .i64 t179, .int .i64 t180], .agg #[.int .i64 t169, .int .i64 t170, .int .i64 t171, .int .i64 t172, .int .i64 t173]] rfl zT4 ?_; (with_reducible refine (laws_eqEvent.calls t176 t177 t178 t179 t180 t169 t170 t171 t172 t173 false _ A5.out).mono ?_); rintro e w34 ⟨rfl, hb⟩; refine ⟨_, rfl, ?_⟩; have n0_ := Aside0.mk (blk_below (g := gb175) (o := .cells #[.int .i64 t169, .int .i64 t170, .int .i64 t171, .int .i64 t172, .int .i64 t173] 23 (0, 0)) (by refine zP4 ?_; refine blk_far ?_ NB175_182.out _; refine zP4 ?_; refine blk_far ?_ NB175_182.out _; refine zP4 ?_; refine blk_far ?_ NB175_182.out _; refine zP4 ?_; refine blk_far ?_ NB175_182.out _; refine zP4 ?_; refine blk_far ?_ NB175_182.out _; refine zP4 ?_; exact BK175.out) hb); have n1_ := Aside0.mk (blk_below (g := gb182) (o := .cells #[.int .i64 t176, .int .i64 t177, .int .i64 t178, .int .i64 t179, .int .i64 t180] 23 (0, 0)) (by refine zP4 ?_; refine blk_put (cs := #[.int .i64 t176, .int .i64 t177, .int .i64 t178, .int .i64 t179, .int .i64 0]) ?_ 4 _ rfl; refine zP4 ?_; refine blk_put (cs := #[.int .i64 t176, .int .i64 t177, .int .i64 t178, .int .i64 0, .int .i64 0]) ?_ 3 _ rfl; refine zP4 ?_; refine blk_put (cs := #[.int .i64 t176, .int .i64 t177, .int .i64 0, .int .i64 0, .int .i64 0]) ?_ 2 _ rfl; refine zP4 ?_; refine blk_put (cs := #[.int .i64 t176, .int .i64 0, .int .i64 0, .int .i64 0, .int .i64 0]) ?_ 1 _ rfl; refine zP4 ?_; refine blk_put (cs := #[.int .i64 0, .int .i64 0, .int .i64 0, .int .i64 0, .int .i64 0]) ?_ 0 _ rfl; refine zP4 ?_; exact BK182.out) hb); have n2_ := Aside0.mk (below_step (zB4_6) hb); clear BK175; clear BK182; clear HB; have BK175 := n0_; have BK182 := n1_; have HB := n2_; clear n0_ n1_ n2_; (try clear hb); (try clear hb2); (try clear hk); (try clear hi)))
  go_ret
  exact ⟨zE4, zB4_6⟩
 subst c6
 have H1 : (if (t181 != t174) = true then (some false) else (some true)) = some r := by rw [if_pos rfl] at H; exact H
 clear H
 have H := H1
 clear H1
 by_cases c7 : (t181 != t174) = true
 rotate_left
 ·rw [if_neg c7] at H
  have c7b0 : (t181 != t174) = false := by simpa using c7
  (try (have c7b1 : decide (t181 = t174) = true := by simpa using c7))
  (try (have c7b2 : (t181 == t174) = true := by simpa using c7))
  clear c7
  obtain rfl := Option.some.inj H
  go_enter Tryd.func3, Tryd.ntmps3
  go_wp2_with (first | ((with_reducible refine gate_callee (f := 5) rfl ?_); refine goesL_ (some 12) rfl rfl Tryd.func5 (by kernel_rfl) rfl #[.string a0] rfl zT4 ?_; (with_reducible refine (spec_EventRead.calls k a0 t169 t170 t171 t172 t173 t174 _ A3.out).mono ?_); rintro e w17 ⟨rfl, hb⟩; refine ⟨_, rfl, ?_⟩; have n0_ := Aside0.mk (below_step (zB4_0) hb); clear HB; have HB := n0_; clear n0_; (try clear hb); (try clear hb2); (try clear hk); (try clear hi)) | ((with_reducible refine gate_dst (N := 3) rfl ?_); refine box_event ?hg (N := 3) ?hd (cs := #[.int .i64 0, .int .i64 0, .int .i64 0, .int .i64 0, .int .i64 0]) (t := 23) ?hr ?_; (case hd => rfl); (case hg => rfl); (case hr => first | (go_simp; done) | (go_simp; rfl)); intro gb175 hg w18 hbox hb; have n0_ := Aside0.mk (below_step (zB4_0) hb); have n1_ := Aside0.mk (hbox); have n2_ := Aside0.mk ((by rw [hg]; exact (below_size (zB4_0)) : w.heap.size ≤ gb175)); have n3_ := Aside0.mk ((by rw [hg]; exact (below_size (zB4_0)) : w.heap.size ≤ gb175)); clear HB; have HB := n0_; have BK175 := n1_; have GW175 := n2_; have GE175 := n3_; clear n0_ n1_ n2_ n3_; clear hb hbox hg; obtain ⟨hcz19_0, hcz19_1, hcz19_2, hcz19_3, hcz19_4, hfz19_0, hfz19_1, hfz19_2, hfz19_3, hfz19_4⟩ := zc4_5 (w := w18) BK175.out) | ((with_reducible refine gate_callee (f := 6) rfl ?_); refine goesL_ (some 17) rfl rfl Tryd.func6 (by kernel_rfl) rfl #[.string a0] rfl zT4 ?_; (with_reducible refine (impl_EventRead.calls k a0 t176 t177 t178 t179 t180 t181 _ A4.out).mono ?_); rintro e w20 ⟨rfl, hb⟩; refine ⟨_, rfl, ?_⟩; have n0_ := Aside0.mk (blk_below (g := gb175) (o := .cells #[.int .i64 t169, .int .i64 t170, .int .i64 t171, .int .i64 t172, .int .i64 t173] 23 (0, 0)) (by refine zP4 ?_; refine blk_put (cs := #[.int .i64 t169, .int .i64 t170, .int .i64 t171, .int .i64 t172, .int .i64 0]) ?_ 4 _ rfl; refine zP4 ?_; refine blk_put (cs := #[.int .i64 t169, .int .i64 t170, .int .i64 t171, .int .i64 0, .int .i64 0]) ?_ 3 _ rfl; refine zP4 ?_; refine blk_put (cs := #[.int .i64 t169, .int .i64 t170, .int .i64 0, .int .i64 0, .int .i64 0]) ?_ 2 _ rfl; refine zP4 ?_; refine blk_put (cs := #[.int .i64 t169, .int .i64 0, .int .i64 0, .int .i64 0, .int .i64 0]) ?_ 1 _ rfl; refine zP4 ?_; refine blk_put (cs := #[.int .i64 0, .int .i64 0, .int .i64 0, .int .i64 0, .int .i64 0]) ?_ 0 _ rfl; refine zP4 ?_; exact BK175.out) hb); have n1_ := Aside0.mk (below_step (zB4_5) hb); clear BK175; clear HB; have BK175 := n0_; have HB := n1_; clear n0_ n1_; (try clear hb); (try clear hb2); (try clear hk); (try clear hi)) | ((with_reducible refine gate_dst (N := 5) rfl ?_); refine box_event ?hg (N := 5) ?hd (cs := #[.int .i64 0, .int .i64 0, .int .i64 0, .int .i64 0, .int .i64 0]) (t := 23) ?hr ?_; (case hd => rfl); (case hg => rfl); (case hr => first | (go_simp; done) | (go_simp; rfl)); intro gb182 hg w21 hbox hb; have n0_ := Aside0.mk (zb4 BK175.out hb); have n1_ := Aside0.mk (below_step (zB4_5) hb); have n2_ := Aside0.mk (hbox); have n3_ := Aside0.mk ((by rw [hg]; exact (below_size (zB4_5)) : w.heap.size ≤ gb182)); have n4_ := Aside0.mk ((by rw [hg]; exact (below_size (zB4_5)) : w.heap.size ≤ gb182)); have n5_ := Aside0.mk ((zn4 BK175.out hg : gb175 ≠ gb182)); have n6_ := Aside0.mk ((zm4 BK175.out hg : gb182 ≠ gb175)); clear BK175; clear HB; have BK175 := n0_; have HB := n1_; have BK182 := n2_; have GW182 := n3_; have GE182 := n4_; have NB175_182 := n5_; have NB182_175 := n6_; clear n0_ n1_ n2_ n3_ n4_ n5_ n6_; clear hb hbox hg; have hnb22 := NB182_175.out; have hnc22 := NB175_182.out; obtain ⟨hcz23_0, hcz23_1, hcz23_2, hcz23_3, hcz23_4, hfz23_0, hfz23_1, hfz23_2, hfz23_3, hfz23_4⟩ := zc4_5 (w := w21) BK182.out; obtain ⟨hcz24_0, hcz24_1, hcz24_2, hcz24_3, hcz24_4, hfz24_0, hfz24_1, hfz24_2, hfz24_3, hfz24_4⟩ := zc4_5 (w := w21) BK175.out) | ((with_reducible refine gate_callee (f := 7) rfl ?_); refine goesL_ (some 22) rfl rfl Tryd.func7 (by kernel_rfl) rfl #[.agg #[.int .i64 t176, .int .i64 t177, .int .i64 t178, .int .i64 t179, .int .i64 t180], .agg #[.int .i64 t169, .int .i64 t170, .int .i64 t171, .int .i64 t172, .int .i64 t173]] rfl zT4 ?_; (with_reducible refine (laws_eqEvent.calls t176 t177 t178 t179 t180 t169 t170 t171 t172 t173 true _ A5.out).mono ?_); rintro e w25 ⟨rfl, hb⟩; refine ⟨_, rfl, ?_⟩; have n0_ := Aside0.mk (blk_below (g := gb175) (o := .cells #[.int .i64 t169, .int .i64 t170, .int .i64 t171, .int .i64 t172, .int .i64 t173] 23 (0, 0)) (by refine zP4 ?_; refine blk_far ?_ NB175_182.out _; refine zP4 ?_; refine blk_far ?_ NB175_182.out _; refine zP4 ?_; refine blk_far ?_ NB175_182.out _; refine zP4 ?_; refine blk_far ?_ NB175_182.out _; refine zP4 ?_; refine blk_far ?_ NB175_182.out _; refine zP4 ?_; exact BK175.out) hb); have n1_ := Aside0.mk (blk_below (g := gb182) (o := .cells #[.int .i64 t176, .int .i64 t177, .int .i64 t178, .int .i64 t179, .int .i64 t180] 23 (0, 0)) (by refine zP4 ?_; refine blk_put (cs := #[.int .i64 t176, .int .i64 t177, .int .i64 t178, .int .i64 t179, .int .i64 0]) ?_ 4 _ rfl; refine zP4 ?_; refine blk_put (cs := #[.int .i64 t176, .int .i64 t177, .int .i64 t178, .int .i64 0, .int .i64 0]) ?_ 3 _ rfl; refine zP4 ?_; refine blk_put (cs := #[.int .i64 t176, .int .i64 t177, .int .i64 0, .int .i64 0, .int .i64 0]) ?_ 2 _ rfl; refine zP4 ?_; refine blk_put (cs := #[.int .i64 t176, .int .i64 0, .int .i64 0, .int .i64 0, .int .i64 0]) ?_ 1 _ rfl; refine zP4 ?_; refine blk_put (cs := #[.int .i64 0, .int .i64 0, .int .i64 0, .int .i64 0, .int .i64 0]) ?_ 0 _ rfl; refine zP4 ?_; exact BK182.out) hb); have n2_ := Aside0.mk (below_step (zB4_6) hb); clear BK175; clear BK182; clear HB; have BK175 := n0_; have BK182 := n1_; have HB := n2_; clear n0_ n1_ n2_; (try clear hb); (try clear hb2); (try clear hk); (try clear hi)))
  go_ret
  exact ⟨zE4, zB4_6⟩
 rw [if_pos c7] at H
 have c7b0 : (t181 != t174) = true := c7
 (try (have c7b1 : decide (t181 = t174) = false := by simpa using c7))
 (try (have c7b2 : (t181 == t174) = false := by simpa using c7))
 (try (have c7b3 : ¬ (t181 = t174) := by simpa using c7))
 clear c7
 obtain rfl := Option.some.inj H
 go_enter Tryd.func3, Tryd.ntmps3
 go_wp2_with (first | ((with_reducible refine gate_callee (f := 5) rfl ?_); refine goesL_ (some 12) rfl rfl Tryd.func5 (by kernel_rfl) rfl #[.string a0] rfl zT4 ?_; (with_reducible refine (spec_EventRead.calls k a0 t169 t170 t171 t172 t173 t174 _ A3.out).mono ?_); rintro e w8 ⟨rfl, hb⟩; refine ⟨_, rfl, ?_⟩; have n0_ := Aside0.mk (below_step (zB4_0) hb); clear HB; have HB := n0_; clear n0_; (try clear hb); (try clear hb2); (try clear hk); (try clear hi)) | ((with_reducible refine gate_dst (N := 3) rfl ?_); refine box_event ?hg (N := 3) ?hd (cs := #[.int .i64 0, .int .i64 0, .int .i64 0, .int .i64 0, .int .i64 0]) (t := 23) ?hr ?_; (case hd => rfl); (case hg => rfl); (case hr => first | (go_simp; done) | (go_simp; rfl)); intro gb175 hg w9 hbox hb; have n0_ := Aside0.mk (below_step (zB4_0) hb); have n1_ := Aside0.mk (hbox); have n2_ := Aside0.mk ((by rw [hg]; exact (below_size (zB4_0)) : w.heap.size ≤ gb175)); have n3_ := Aside0.mk ((by rw [hg]; exact (below_size (zB4_0)) : w.heap.size ≤ gb175)); clear HB; have HB := n0_; have BK175 := n1_; have GW175 := n2_; have GE175 := n3_; clear n0_ n1_ n2_ n3_; clear hb hbox hg; obtain ⟨hcz10_0, hcz10_1, hcz10_2, hcz10_3, hcz10_4, hfz10_0, hfz10_1, hfz10_2, hfz10_3, hfz10_4⟩ := zc4_5 (w := w9) BK175.out) | ((with_reducible refine gate_callee (f := 6) rfl ?_); refine goesL_ (some 17) rfl rfl Tryd.func6 (by kernel_rfl) rfl #[.string a0] rfl zT4 ?_; (with_reducible refine (impl_EventRead.calls k a0 t176 t177 t178 t179 t180 t181 _ A4.out).mono ?_); rintro e w11 ⟨rfl, hb⟩; refine ⟨_, rfl, ?_⟩; have n0_ := Aside0.mk (blk_below (g := gb175) (o := .cells #[.int .i64 t169, .int .i64 t170, .int .i64 t171, .int .i64 t172, .int .i64 t173] 23 (0, 0)) (by refine zP4 ?_; refine blk_put (cs := #[.int .i64 t169, .int .i64 t170, .int .i64 t171, .int .i64 t172, .int .i64 0]) ?_ 4 _ rfl; refine zP4 ?_; refine blk_put (cs := #[.int .i64 t169, .int .i64 t170, .int .i64 t171, .int .i64 0, .int .i64 0]) ?_ 3 _ rfl; refine zP4 ?_; refine blk_put (cs := #[.int .i64 t169, .int .i64 t170, .int .i64 0, .int .i64 0, .int .i64 0]) ?_ 2 _ rfl; refine zP4 ?_; refine blk_put (cs := #[.int .i64 t169, .int .i64 0, .int .i64 0, .int .i64 0, .int .i64 0]) ?_ 1 _ rfl; refine zP4 ?_; refine blk_put (cs := #[.int .i64 0, .int .i64 0, .int .i64 0, .int .i64 0, .int .i64 0]) ?_ 0 _ rfl; refine zP4 ?_; exact BK175.out) hb); have n1_ := Aside0.mk (below_step (zB4_5) hb); clear BK175; clear HB; have BK175 := n0_; have HB := n1_; clear n0_ n1_; (try clear hb); (try clear hb2); (try clear hk); (try clear hi)) | ((with_reducible refine gate_dst (N := 5) rfl ?_); refine box_event ?hg (N := 5) ?hd (cs := #[.int .i64 0, .int .i64 0, .int .i64 0, .int .i64 0, .int .i64 0]) (t := 23) ?hr ?_; (case hd => rfl); (case hg => rfl); (case hr => first | (go_simp; done) | (go_simp; rfl)); intro gb182 hg w12 hbox hb; have n0_ := Aside0.mk (zb4 BK175.out hb); have n1_ := Aside0.mk (below_step (zB4_5) hb); have n2_ := Aside0.mk (hbox); have n3_ := Aside0.mk ((by rw [hg]; exact (below_size (zB4_5)) : w.heap.size ≤ gb182)); have n4_ := Aside0.mk ((by rw [hg]; exact (below_size (zB4_5)) : w.heap.size ≤ gb182)); have n5_ := Aside0.mk ((zn4 BK175.out hg : gb175 ≠ gb182)); have n6_ := Aside0.mk ((zm4 BK175.out hg : gb182 ≠ gb175)); clear BK175; clear HB; have BK175 := n0_; have HB := n1_; have BK182 := n2_; have GW182 := n3_; have GE182 := n4_; have NB175_182 := n5_; have NB182_175 := n6_; clear n0_ n1_ n2_ n3_ n4_ n5_ n6_; clear hb hbox hg; have hnb13 := NB182_175.out; have hnc13 := NB175_182.out; obtain ⟨hcz14_0, hcz14_1, hcz14_2, hcz14_3, hcz14_4, hfz14_0, hfz14_1, hfz14_2, hfz14_3, hfz14_4⟩ := zc4_5 (w := w12) BK182.out; obtain ⟨hcz15_0, hcz15_1, hcz15_2, hcz15_3, hcz15_4, hfz15_0, hfz15_1, hfz15_2, hfz15_3, hfz15_4⟩ := zc4_5 (w := w12) BK175.out) | ((with_reducible refine gate_callee (f := 7) rfl ?_); refine goesL_ (some 22) rfl rfl Tryd.func7 (by kernel_rfl) rfl #[.agg #[.int .i64 t176, .int .i64 t177, .int .i64 t178, .int .i64 t179, .int .i64 t180], .agg #[.int .i64 t169, .int .i64 t170, .int .i64 t171, .int .i64 t172, .int .i64 t173]] rfl zT4 ?_; (with_reducible refine (laws_eqEvent.calls t176 t177 t178 t179 t180 t169 t170 t171 t172 t173 true _ A5.out).mono ?_); rintro e w16 ⟨rfl, hb⟩; refine ⟨_, rfl, ?_⟩; have n0_ := Aside0.mk (blk_below (g := gb175) (o := .cells #[.int .i64 t169, .int .i64 t170, .int .i64 t171, .int .i64 t172, .int .i64 t173] 23 (0, 0)) (by refine zP4 ?_; refine blk_far ?_ NB175_182.out _; refine zP4 ?_; refine blk_far ?_ NB175_182.out _; refine zP4 ?_; refine blk_far ?_ NB175_182.out _; refine zP4 ?_; refine blk_far ?_ NB175_182.out _; refine zP4 ?_; refine blk_far ?_ NB175_182.out _; refine zP4 ?_; exact BK175.out) hb); have n1_ := Aside0.mk (blk_below (g := gb182) (o := .cells #[.int .i64 t176, .int .i64 t177, .int .i64 t178, .int .i64 t179, .int .i64 t180] 23 (0, 0)) (by refine zP4 ?_; refine blk_put (cs := #[.int .i64 t176, .int .i64 t177, .int .i64 t178, .int .i64 t179, .int .i64 0]) ?_ 4 _ rfl; refine zP4 ?_; refine blk_put (cs := #[.int .i64 t176, .int .i64 t177, .int .i64 t178, .int .i64 0, .int .i64 0]) ?_ 3 _ rfl; refine zP4 ?_; refine blk_put (cs := #[.int .i64 t176, .int .i64 t177, .int .i64 0, .int .i64 0, .int .i64 0]) ?_ 2 _ rfl; refine zP4 ?_; refine blk_put (cs := #[.int .i64 t176, .int .i64 0, .int .i64 0, .int .i64 0, .int .i64 0]) ?_ 1 _ rfl; refine zP4 ?_; refine blk_put (cs := #[.int .i64 0, .int .i64 0, .int .i64 0, .int .i64 0, .int .i64 0]) ?_ 0 _ rfl; refine zP4 ?_; exact BK182.out) hb); have n2_ := Aside0.mk (below_step (zB4_6) hb); clear BK175; clear BK182; clear HB; have BK175 := n0_; have BK182 := n1_; have HB := n2_; clear n0_ n1_ n2_; (try clear hb); (try clear hb2); (try clear hk); (try clear hi)))
 go_ret
 exact ⟨zE4, zB4_6⟩

/-- THE ONE PURE STATEMENT of laws_FnExactEventRead: yours. -/
def laws_FnExactEventRead.Pure : Prop := ∀ (a0 : ByteArray), a0.size ≤ 140737488351232 → ∃ k, laws_FnExactEventRead.f k a0 = some true
theorem laws_FnExactEventRead.walk (P : laws_FnExactEventRead.Pure) (a0 : ByteArray) (w : World) (w0 : a0.size ≤ 140737488351232) :
  Calls Tryd.prog 3 #[.string a0] w fun e w' => e = .returned (.bool true) ∧ Below w.heap.size w w' := by
 obtain ⟨k, h⟩ := P a0 w0
 refine (laws_FnExactEventRead.calls k a0 true w h).mono ?_
 rintro e w' ⟨rfl, hd⟩
 exact ⟨rfl, hd⟩

end Go.Proofs.YthmkclelkijhoaaDoor.PFnExactEventRead
