-- made by wip/tools/myprint.py out of the seat's translation
import Derived.Test.YtmfhfnpinmlloaaPFnGoesx0
import Derived.Lib.RowBridge
import Derived.Shelf.Slices.Cells
import Derived.Shelf.Slices.CompactI
import Derived.Shelf.Slices.In.SortNone
import Derived.Shelf.Sort.Plain
import Derived.Test.YtmfhfnpinmlloaaPFnGoesx1
import Derived.Test.YtmfhfnpinmlloaaPFnGoesx5
namespace Go.Proofs.Ytmfhfnpinmlloaa.PFnGoes
open Go.RowKit Go.Proofs.YtmfhfnpinmlloaaW.PrintWords Go.Proofs.YtmfhfnpinmlloaaW.PrintLast Go.Proofs.YtmfhfnpinmlloaaW.PrintMore
attribute [local go_sem] max2_int min2_int max_two min_two max_three min_three max_four min_four   -- for this text's walks alone
set_option linter.unusedVariables false
set_option linter.unusedSimpArgs false
theorem zc6_5 {w : World} {g : Nat} {a0 a1 a2 a3 a4 : Value} {t : TypeId} (h : w.heap[g]? = some (.cells #[a0, a1, a2, a3, a4] t (0, 0))) : w.cell? ⟨g, 0, none⟩ = some a0 ∧ w.cell? ⟨g, 1, none⟩ = some a1 ∧ w.cell? ⟨g, 2, none⟩ = some a2 ∧ w.cell? ⟨g, 3, none⟩ = some a3 ∧ w.cell? ⟨g, 4, none⟩ = some a4 ∧ w.frozen? ⟨g, 0, none⟩ = false ∧ w.frozen? ⟨g, 1, none⟩ = false ∧ w.frozen? ⟨g, 2, none⟩ = false ∧ w.frozen? ⟨g, 3, none⟩ = false ∧ w.frozen? ⟨g, 4, none⟩ = false := ⟨(blk_cell h 0).trans rfl, (blk_cell h 1).trans rfl, (blk_cell h 2).trans rfl, (blk_cell h 3).trans rfl, (blk_cell h 4).trans rfl, blk_frozen h 0, blk_frozen h 1, blk_frozen h 2, blk_frozen h 3, blk_frozen h 4⟩
theorem zK6 {p q : Prop} (x : q) (h : q → p := by intro h; (with_reducible repeat (first | refine blk_drewN ?_ _ | refine blk_drew ?_ | refine blk_alloc ?_ _)); exact h) : p := h x
theorem zJ6 {p q : Prop} (x : q) (h : q → p := by intro h; (with_reducible repeat (first | refine blk_drewN ?_ _ | refine blk_drew ?_ )); exact h) : p := h x
theorem zT6 {p : Prop} (h : p := by (try simp only [List.map_toArray, List.map_cons, List.map_nil]); first | done | rfl | (simp only [List.length_drop, List.length_take]; rfl)) : p := h
theorem zb6 {W w w1 : World} {g : Nat} {o : Obj} (x : W.heap[g]? = some o) (hb : Below w.heap.size w w1) (h : W.heap[g]? = some o → w.heap[g]? = some o := by intro h; (with_reducible repeat (first | refine blk_drewN ?_ _ | refine blk_drew ?_ | refine blk_alloc ?_ _)); exact h) : w1.heap[g]? = some o := blk_below (h x) hb
theorem zn6 {W w : World} {g g' : Nat} {o : Obj} (x : W.heap[g]? = some o) (hg : g' = w.heap.size) (h : W.heap[g]? = some o → w.heap[g]? = some o := by intro h; (with_reducible repeat (first | refine blk_drewN ?_ _ | refine blk_drew ?_ | refine blk_alloc ?_ _)); exact h) : g ≠ g' := by rw [hg]; exact Nat.ne_of_lt (blk_lt (h x))
theorem zm6 {W w : World} {g g' : Nat} {o : Obj} (x : W.heap[g]? = some o) (hg : g' = w.heap.size) (h : W.heap[g]? = some o → w.heap[g]? = some o := by intro h; (with_reducible repeat (first | refine blk_drewN ?_ _ | refine blk_drew ?_ | refine blk_alloc ?_ _)); exact h) : g' ≠ g := by rw [hg]; exact Nat.ne_of_gt (blk_lt (h x))
theorem zP6 {p q : Prop} (x : q) (h : q → p := by intro h; (with_reducible repeat (first | refine blk_drewN ?_ _ | refine blk_drew ?_ | refine blk_alloc ?_ _)); exact h) : p := h x
theorem zE6 {p : Prop} (h : p := by first | rfl | (simp [errW_none, errW_some] <;> rfl) | (simp [*, errW_none, errW_some] <;> rfl)) : p := h
theorem zB6_0 {p : Prop} (h : p := by repeat (first | (with_reducible first | exact HB1.out | apply pw_below_drewN | apply below_drew1) | exact HB1.out)) : p := h
theorem zB6_1 {p : Prop} (h : p := by repeat (first | (with_reducible first | exact HB.out | apply below_alloc | apply pw_below_drewN | apply below_drew1) | exact HB.out)) : p := h
theorem zB6_2 {p : Prop} (h : p := by repeat (first | (with_reducible first | exact HB.out | apply below_alloc | apply pw_below_drewN | apply below_drew1 | refine below_set ?_ GE342.out) | exact HB.out)) : p := h
theorem zB6_3 {p : Prop} (h : p := by repeat (first | (with_reducible first | exact HB.out | apply below_alloc | apply pw_below_drewN | apply below_drew1 | refine below_set ?_ GE342.out | refine below_set ?_ GE344.out) | exact HB.out)) : p := h

attribute [local go_sem high] eqA41
/-! ### impl_form: function 52 -/
mutual
def impl_form.j0 : Nat → Int → Bool → Option (ByteArray × Bool)
  | 0, _, _ => none
  | k + 1, x4, x7 => if x7 = true then (some ((⟨#[82, 65, 66]⟩ : ByteArray), true)) else (if x4 = 3 then (impl_form.j1 k x4 (x4 == 3)) else (impl_form.j1 k x4 (x4 == 4)))
def impl_form.j1 : Nat → Int → Bool → Option (ByteArray × Bool)
  | 0, _, _ => none
  | k + 1, x4, x10 => if x10 = true then (some ((⟨#[82, 65, 78]⟩ : ByteArray), true)) else (if x4 = 5 then (some ((⟨#[65, 66, 78]⟩ : ByteArray), true)) else (if x4 = 6 then (some ((⟨#[82, 65, 66, 78]⟩ : ByteArray), true)) else (if x4 = 7 then (some ((⟨#[65, 78]⟩ : ByteArray), true)) else (if x4 = 8 then (some ((⟨#[78]⟩ : ByteArray), true)) else (if x4 = 9 then (some ((⟨#[]⟩ : ByteArray), true)) else (some ((⟨#[]⟩ : ByteArray), false)))))))
end
def impl_form.f (k : Nat) (a0 : Int) : Option (ByteArray × Bool) := if a0 = 1 then (some ((⟨#[82, 78]⟩ : ByteArray), true)) else (if a0 = 2 then (impl_form.j0 k a0 (a0 == 2)) else (impl_form.j0 k a0 (a0 == 10)))
theorem impl_form.mono_l : ∀ k, (∀ y0 y1, LeO (impl_form.j0 k y0 y1) (impl_form.j0 (k + 1) y0 y1)) ∧ (∀ y0 y1, LeO (impl_form.j1 k y0 y1) (impl_form.j1 (k + 1) y0 y1))
  | 0 => ⟨fun _ _ r h => by simp [impl_form.j0] at h, fun _ _ r h => by simp [impl_form.j1] at h⟩
  | k + 1 => by
    obtain ⟨ih0, ih1⟩ := impl_form.mono_l k
    refine ⟨?_, ?_⟩
    · intro y0 y1
      unfold impl_form.j0
      repeat' first
      | (with_reducible exact ih0 _ _)
      | (with_reducible exact ih1 _ _)
      | (with_reducible exact LeO.refl _)
      | (with_reducible exact LeO.none _)
      | (with_reducible refine LeO.ite ?_ ?_)
      | (with_reducible refine LeO.bind ?_ (fun _ => ?_))
      | exact ih0 _ _
      | exact ih1 _ _
      | exact LeO.none _
      | refine LeO.ite ?_ ?_
      | refine LeO.bind ?_ (fun _ => ?_)
    · intro y0 y1
      unfold impl_form.j1
      repeat' first
      | (with_reducible exact ih0 _ _)
      | (with_reducible exact ih1 _ _)
      | (with_reducible exact LeO.refl _)
      | (with_reducible exact LeO.none _)
      | (with_reducible refine LeO.ite ?_ ?_)
      | (with_reducible refine LeO.bind ?_ (fun _ => ?_))
      | exact ih0 _ _
      | exact ih1 _ _
      | exact LeO.none _
      | refine LeO.ite ?_ ?_
      | refine LeO.bind ?_ (fun _ => ?_)
theorem impl_form.mono : ∀ a0 k, LeO (impl_form.f k a0) (impl_form.f (k + 1) a0) := by
  intro a0 k
  obtain ⟨ih0, ih1⟩ := impl_form.mono_l k
  unfold impl_form.f
  repeat' first
      | (with_reducible exact ih0 _ _)
      | (with_reducible exact ih1 _ _)
      | (with_reducible exact LeO.refl _)
      | (with_reducible exact LeO.none _)
      | (with_reducible refine LeO.ite ?_ ?_)
      | (with_reducible refine LeO.bind ?_ (fun _ => ?_))
      | exact ih0 _ _
      | exact ih1 _ _
      | exact LeO.none _
      | refine LeO.ite ?_ ?_
      | refine LeO.bind ?_ (fun _ => ?_)
set_option maxHeartbeats 8000000 in
set_option maxRecDepth 100000 in
theorem impl_form.calls (k : Nat) (a0 : Int) (r1 : ByteArray) (r2 : Bool) (w : World) (h : impl_form.f k a0 = some (r1, r2)) :
    Calls Try.prog 52 #[.int .i64 a0] w fun e w' => e = .returned (.tuple #[.string r1, .bool r2]) ∧ Drawn0 w w' := by
  have H : (if a0 = 1 then (some ((⟨#[82, 78]⟩ : ByteArray), true)) else (if a0 = 2 then (impl_form.j0 k a0 (a0 == 2)) else (impl_form.j0 k a0 (a0 == 10)))) = some (r1, r2) := h
  clear h
  by_cases c2 : a0 = 1
  · rw [if_pos c2] at H
    have c2b0 : (a0 == 1) = true := beq_iff_eq.mpr c2
    have c2b1 : (a0 != 1) = false := bne_eq_false_iff_eq.mpr c2
    clear c2
    simp only [Option.some.injEq, Prod.mk.injEq] at H
    obtain ⟨rfl, rfl⟩ := H
    go_enter Try.func52, Try.ntmps52
    go_wp2
    go_ret2
    exact ⟨by first | rfl | (simp; done) | (simp [*]; done), by repeat (first | exact Drawn0.refl _ | apply Drawn0.step)⟩
  rw [if_neg c2] at H
  have c2b0 : (a0 == 1) = false := beq_eq_false_iff_ne.mpr c2
  have c2b1 : (a0 != 1) = true := bne_iff_ne.mpr c2
  have HC3 := Aside0.mk H
  clear H
  go_enter Try.func52, Try.ntmps52
  go_upto_if 7 with (fail)
  go_cut [7] (fun v7 wc => ∃ (kq : Nat) (x7_2 : Bool), v7 = .bool x7_2 ∧ Aside0 (impl_form.j0 kq a0 x7_2 = some (r1, r2)) ∧ Aside0 (kq ≤ k) ∧ Drawn0 w wc)
  case first =>
    have H := HC3.out
    clear HC3
    by_cases c4 : a0 = 2
    rotate_left
    · rw [if_neg c4] at H
      have c4b0 : (a0 == 2) = false := beq_eq_false_iff_ne.mpr c4
      have c4b1 : (a0 != 2) = true := bne_iff_ne.mpr c4
      (first | rw [c4b0] | (simp only [i64_w, i32_w]; rw [c4b0]) | skip)
      have H' := Aside0.mk H
      clear H
      go_wp2
      go_meet
      case rel => exact ⟨_, ((a0 == 10)), (by first | rfl | (simp; done) | (simp [*]; done)), H', ⟨by first | omega | exact Nat.le_refl _⟩, by repeat (first | exact Drawn0.refl _ | apply Drawn0.step)⟩
    rw [if_pos c4] at H
    have c4b0 : (a0 == 2) = true := beq_iff_eq.mpr c4
    have c4b1 : (a0 != 2) = false := bne_eq_false_iff_eq.mpr c4
    clear c4
    (first | rw [c4b0] | (simp only [i64_w, i32_w]; rw [c4b0]) | skip)
    have H' := Aside0.mk H
    clear H
    go_wp2
    go_meet
    case rel => exact ⟨_, ((a0 == 2)), (by first | rfl | (simp; done) | (simp [*]; done)), H', ⟨by first | omega | exact Nat.le_refl _⟩, by repeat (first | exact Drawn0.refl _ | apply Drawn0.step)⟩
  case rest =>
    clear HC3
    try clear c2
    try clear c2b0
    try clear c2b1
    try clear p2
    try clear c4
    try clear c4b0
    try clear c4b1
    obtain ⟨kq, x7_2, rfl, HA, HJ2, ⟨mc2, rfl⟩⟩ := hcut
    cases kq with
    | zero => exact absurd HA.out (by simp [impl_form.j0])
    | succ kj2 =>
      have H := HA.out
      clear HA
      simp only [impl_form.j0] at H
      by_cases c5 : x7_2 = true
      · subst c5
        have H1 : (some ((⟨#[82, 65, 66]⟩ : ByteArray), true)) = some (r1, r2) := by rw [if_pos rfl] at H; exact H
        clear H
        have H := H1
        clear H1
        simp only [Option.some.injEq, Prod.mk.injEq] at H
        obtain ⟨rfl, rfl⟩ := H
        go_wp2
        go_ret2
        exact ⟨by first | rfl | (simp; done) | (simp [*]; done), by repeat (first | exact Drawn0.refl _ | apply Drawn0.step)⟩
      replace c5 := Bool.eq_false_iff.mpr c5
      subst c5
      have H1 : (if a0 = 3 then (impl_form.j1 kj2 a0 (a0 == 3)) else (impl_form.j1 kj2 a0 (a0 == 4))) = some (r1, r2) := by rw [if_neg (show ¬ (false = true) by decide)] at H; exact H
      clear H
      have H := H1
      clear H1
      have HC6 := Aside0.mk H
      clear H
      go_upto_if 10 with (fail)
      go_cut [10] (fun v10 wc => ∃ (kq : Nat) (x10_5 : Bool), v10 = .bool x10_5 ∧ Aside0 (impl_form.j1 kq a0 x10_5 = some (r1, r2)) ∧ Aside0 (kq ≤ kj2) ∧ Drawn0 w wc)
      case first =>
        have H := HC6.out
        clear HC6
        by_cases c7 : a0 = 3
        rotate_left
        · rw [if_neg c7] at H
          have c7b0 : (a0 == 3) = false := beq_eq_false_iff_ne.mpr c7
          have c7b1 : (a0 != 3) = true := bne_iff_ne.mpr c7
          (first | rw [c7b0] | (simp only [i64_w, i32_w]; rw [c7b0]) | skip)
          have H' := Aside0.mk H
          clear H
          go_wp2
          go_meet
          case rel => exact ⟨_, ((a0 == 4)), (by first | rfl | (simp; done) | (simp [*]; done)), H', ⟨by have := HJ2.out; first | omega | exact Nat.le_refl _⟩, by repeat (first | exact Drawn0.refl _ | apply Drawn0.step)⟩
        rw [if_pos c7] at H
        have c7b0 : (a0 == 3) = true := beq_iff_eq.mpr c7
        have c7b1 : (a0 != 3) = false := bne_eq_false_iff_eq.mpr c7
        clear c7
        (first | rw [c7b0] | (simp only [i64_w, i32_w]; rw [c7b0]) | skip)
        have H' := Aside0.mk H
        clear H
        go_wp2
        go_meet
        case rel => exact ⟨_, ((a0 == 3)), (by first | rfl | (simp; done) | (simp [*]; done)), H', ⟨by have := HJ2.out; first | omega | exact Nat.le_refl _⟩, by repeat (first | exact Drawn0.refl _ | apply Drawn0.step)⟩
      case rest =>
        clear HC6
        try clear c2
        try clear c2b0
        try clear c2b1
        try clear p2
        try clear c4
        try clear c4b0
        try clear c4b1
        try clear c5
        try clear c7
        try clear c7b0
        try clear c7b1
        try clear p2
        obtain ⟨kq, x10_5, rfl, HA, HJ5, ⟨mc5, rfl⟩⟩ := hcut
        cases kq with
        | zero => exact absurd HA.out (by simp [impl_form.j1])
        | succ kj5 =>
          have H := HA.out
          clear HA
          simp only [impl_form.j1] at H
          by_cases c8 : x10_5 = true
          · subst c8
            have H1 : (some ((⟨#[82, 65, 78]⟩ : ByteArray), true)) = some (r1, r2) := by rw [if_pos rfl] at H; exact H
            clear H
            have H := H1
            clear H1
            simp only [Option.some.injEq, Prod.mk.injEq] at H
            obtain ⟨rfl, rfl⟩ := H
            go_wp2
            go_ret2
            exact ⟨by first | rfl | (simp; done) | (simp [*]; done), by repeat (first | exact Drawn0.refl _ | apply Drawn0.step)⟩
          replace c8 := Bool.eq_false_iff.mpr c8
          subst c8
          have H1 : (if a0 = 5 then (some ((⟨#[65, 66, 78]⟩ : ByteArray), true)) else (if a0 = 6 then (some ((⟨#[82, 65, 66, 78]⟩ : ByteArray), true)) else (if a0 = 7 then (some ((⟨#[65, 78]⟩ : ByteArray), true)) else (if a0 = 8 then (some ((⟨#[78]⟩ : ByteArray), true)) else (if a0 = 9 then (some ((⟨#[]⟩ : ByteArray), true)) else (some ((⟨#[]⟩ : ByteArray), false))))))) = some (r1, r2) := by rw [if_neg (show ¬ (false = true) by decide)] at H; exact H
          clear H
          have H := H1
          clear H1
          by_cases c9 : a0 = 5
          · rw [if_pos c9] at H
            have c9b0 : (a0 == 5) = true := beq_iff_eq.mpr c9
            have c9b1 : (a0 != 5) = false := bne_eq_false_iff_eq.mpr c9
            clear c9
            simp only [Option.some.injEq, Prod.mk.injEq] at H
            obtain ⟨rfl, rfl⟩ := H
            go_wp2
            go_ret2
            exact ⟨by first | rfl | (simp; done) | (simp [*]; done), by repeat (first | exact Drawn0.refl _ | apply Drawn0.step)⟩
          rw [if_neg c9] at H
          have c9b0 : (a0 == 5) = false := beq_eq_false_iff_ne.mpr c9
          have c9b1 : (a0 != 5) = true := bne_iff_ne.mpr c9
          by_cases c10 : a0 = 6
          · rw [if_pos c10] at H
            have c10b0 : (a0 == 6) = true := beq_iff_eq.mpr c10
            have c10b1 : (a0 != 6) = false := bne_eq_false_iff_eq.mpr c10
            clear c10
            simp only [Option.some.injEq, Prod.mk.injEq] at H
            obtain ⟨rfl, rfl⟩ := H
            go_wp2
            go_ret2
            exact ⟨by first | rfl | (simp; done) | (simp [*]; done), by repeat (first | exact Drawn0.refl _ | apply Drawn0.step)⟩
          rw [if_neg c10] at H
          have c10b0 : (a0 == 6) = false := beq_eq_false_iff_ne.mpr c10
          have c10b1 : (a0 != 6) = true := bne_iff_ne.mpr c10
          by_cases c11 : a0 = 7
          · rw [if_pos c11] at H
            have c11b0 : (a0 == 7) = true := beq_iff_eq.mpr c11
            have c11b1 : (a0 != 7) = false := bne_eq_false_iff_eq.mpr c11
            clear c11
            simp only [Option.some.injEq, Prod.mk.injEq] at H
            obtain ⟨rfl, rfl⟩ := H
            go_wp2
            go_ret2
            exact ⟨by first | rfl | (simp; done) | (simp [*]; done), by repeat (first | exact Drawn0.refl _ | apply Drawn0.step)⟩
          rw [if_neg c11] at H
          have c11b0 : (a0 == 7) = false := beq_eq_false_iff_ne.mpr c11
          have c11b1 : (a0 != 7) = true := bne_iff_ne.mpr c11
          by_cases c12 : a0 = 8
          · rw [if_pos c12] at H
            have c12b0 : (a0 == 8) = true := beq_iff_eq.mpr c12
            have c12b1 : (a0 != 8) = false := bne_eq_false_iff_eq.mpr c12
            clear c12
            simp only [Option.some.injEq, Prod.mk.injEq] at H
            obtain ⟨rfl, rfl⟩ := H
            go_wp2
            go_ret2
            exact ⟨by first | rfl | (simp; done) | (simp [*]; done), by repeat (first | exact Drawn0.refl _ | apply Drawn0.step)⟩
          rw [if_neg c12] at H
          have c12b0 : (a0 == 8) = false := beq_eq_false_iff_ne.mpr c12
          have c12b1 : (a0 != 8) = true := bne_iff_ne.mpr c12
          by_cases c13 : a0 = 9
          rotate_left
          · rw [if_neg c13] at H
            have c13b0 : (a0 == 9) = false := beq_eq_false_iff_ne.mpr c13
            have c13b1 : (a0 != 9) = true := bne_iff_ne.mpr c13
            simp only [Option.some.injEq, Prod.mk.injEq] at H
            obtain ⟨rfl, rfl⟩ := H
            go_wp2
            go_ret2
            exact ⟨by first | rfl | (simp; done) | (simp [*]; done), by repeat (first | exact Drawn0.refl _ | apply Drawn0.step)⟩
          rw [if_pos c13] at H
          have c13b0 : (a0 == 9) = true := beq_iff_eq.mpr c13
          have c13b1 : (a0 != 9) = false := bne_eq_false_iff_eq.mpr c13
          clear c13
          simp only [Option.some.injEq, Prod.mk.injEq] at H
          obtain ⟨rfl, rfl⟩ := H
          go_wp2
          go_ret2
          exact ⟨by first | rfl | (simp; done) | (simp [*]; done), by repeat (first | exact Drawn0.refl _ | apply Drawn0.step)⟩

-- NOT PRINTED: function 53 (impl_Ins_place)

/-! ### impl_InsOk: function 35 -/
def placeOff (c : Int) : Nat := if c = 82 then 1 else if c = 65 then 2 else if c = 66 then 3 else 4
set_option maxHeartbeats 400000 in
set_option maxRecDepth 100000 in
theorem place_calls (g : Nat) (c : Int) (w : World) :
    Calls Try.prog 53 #[.pointer (some ⟨g, 0, none⟩), .int .u8 c] w fun e w' => e = .returned (.pointer (some ⟨g, placeOff c, none⟩)) ∧ w' = w := by
  by_cases c1 : c = 82
  · have e1 : (c == 82) = true := beq_iff_eq.mpr c1
    have ho : placeOff c = 1 := by simp [placeOff, c1]
    have Ho := Aside0.mk ho
    clear c1 ho
    go_enter Try.func53, Try.ntmps53
    go_wp2
    go_ret
    exact ⟨congrArg (fun o => Ending.returned (Value.pointer (some ⟨g, o, none⟩))) Ho.out.symm, rfl⟩
  have e1 : (c == 82) = false := beq_eq_false_iff_ne.mpr c1
  by_cases c2 : c = 65
  · have e2 : (c == 65) = true := beq_iff_eq.mpr c2
    have ho : placeOff c = 2 := by simp [placeOff, c2]
    have Ho := Aside0.mk ho
    clear c1 c2 ho
    go_enter Try.func53, Try.ntmps53
    go_wp2
    go_ret
    exact ⟨congrArg (fun o => Ending.returned (Value.pointer (some ⟨g, o, none⟩))) Ho.out.symm, rfl⟩
  have e2 : (c == 65) = false := beq_eq_false_iff_ne.mpr c2
  by_cases c3 : c = 66
  · have e3 : (c == 66) = true := beq_iff_eq.mpr c3
    have ho : placeOff c = 3 := by simp [placeOff, c3]
    have Ho := Aside0.mk ho
    clear c1 c2 c3 ho
    go_enter Try.func53, Try.ntmps53
    go_wp2
    go_ret
    exact ⟨congrArg (fun o => Ending.returned (Value.pointer (some ⟨g, o, none⟩))) Ho.out.symm, rfl⟩
  have e3 : (c == 66) = false := beq_eq_false_iff_ne.mpr c3
  have ho : placeOff c = 4 := by simp [placeOff, c1, c2, c3]
  have Ho := Aside0.mk ho
  clear c1 c2 c3 ho
  go_enter Try.func53, Try.ntmps53
  go_wp2
  go_ret
  exact ⟨congrArg (fun o => Ending.returned (Value.pointer (some ⟨g, o, none⟩))) Ho.out.symm, rfl⟩

/-- The five numbers, one of them put. -/
def insPut (c : Int) (x s : Int × Int × Int × Int × Int) : Int × Int × Int × Int × Int :=
  if c = 82 then (s.1, x.2.1, s.2.2.1, s.2.2.2.1, s.2.2.2.2) else if c = 65 then (s.1, s.2.1, x.2.2.1, s.2.2.2.1, s.2.2.2.2) else if c = 66 then (s.1, s.2.1, s.2.2.1, x.2.2.2.1, s.2.2.2.2) else (s.1, s.2.1, s.2.2.1, s.2.2.2.1, x.2.2.2.2)
def insCells (s : Int × Int × Int × Int × Int) : Array Value := #[.int .i64 s.1, .int .i64 s.2.1, .int .i64 s.2.2.1, .int .i64 s.2.2.2.1, .int .i64 s.2.2.2.2]
def insPick (x : Int × Int × Int × Int × Int) (c : Int) : Int := if c = 82 then x.2.1 else if c = 65 then x.2.2.1 else if c = 66 then x.2.2.2.1 else x.2.2.2.2
theorem insCells_get (x : Int × Int × Int × Int × Int) (c : Int) : (insCells x)[placeOff c]? = some (.int .i64 (insPick x c)) := by
  unfold insCells placeOff insPick; split <;> (try split) <;> (try split) <;> rfl
theorem insCells_put (x s : Int × Int × Int × Int × Int) (c : Int) : (insCells s).setIfInBounds (placeOff c) (.int .i64 (insPick x c)) = insCells (insPut c x s) := by
  unfold insCells placeOff insPick insPut; split <;> (try split) <;> (try split) <;> rfl
def insFold (s : ByteArray) (x : Int × Int × Int × Int × Int) (n : Nat) : Int × Int × Int × Int × Int := (List.range n).foldl (fun a (i : Nat) => insPut (bt s (i : Int)) x a) (x.1, 0, 0, 0, 0)

theorem insFold_succ (s : ByteArray) (x : Int × Int × Int × Int × Int) (n : Nat) : insFold s x (n + 1) = insPut (bt s (n : Int)) x (insFold s x n) := by
  unfold insFold; rw [List.range_succ, List.foldl_append]; rfl
set_option maxHeartbeats 4000000 in
set_option maxRecDepth 100000 in
theorem insOk_calls (k : Nat) (x0 x1 x2 x3 x4 : Int) (s : ByteArray) (ok : Bool) (w : World) (hs : s.size ≤ 4) (hf : impl_form.f k x0 = some (s, ok)) (y0 y1 y2 y3 y4 : Int) (hy : insFold s (x0, x1, x2, x3, x4) s.size = (y0, y1, y2, y3, y4)) (b1 b2 b3 b4 : Bool) (h1 : impl_from.f x1 0 3 = some b1) (h2 : impl_from.f x2 0 3 = some b2) (h3 : impl_from.f x3 0 3 = some b3) (h4 : impl_from.f x4 0 63 = some b4) :
    Calls Try.prog 35 #[.agg #[.int .i64 x0, .int .i64 x1, .int .i64 x2, .int .i64 x3, .int .i64 x4]] w fun e w' => e = .returned (.bool (ok && ((y0 == x0 && (y1 == x1 && (y2 == x2 && (y3 == x3 && (y4 == x4))))) && (b1 && (b2 && (b3 && b4)))))) ∧ Below w.heap.size w w' := by
  have hu41 := Try.underlying40
  have HF := Aside0.mk hf
  have HY := Aside0.mk hy
  have F1 := Aside0.mk h1
  have F2 := Aside0.mk h2
  have F3 := Aside0.mk h3
  have F4 := Aside0.mk h4
  clear hf hy h1 h2 h3 h4
  have HB := Aside0.mk (Below.refl w.heap.size w)
  go_enter Try.func35, Try.ntmps35
  go_wp2_with (first
    | ((with_reducible refine gate_dst (N := 1) rfl ?_); refine box_event ?hg (N := 1) ?hd (cs := #[.int .i64 x0, .int .i64 x1, .int .i64 x2, .int .i64 x3, .int .i64 x4]) (t := 41) ?hr ?_; (case hd => rfl); (case hg => rfl); (case hr => first | (go_simp; done) | (go_simp; rfl)); intro g1 hg w1 hbox hb; have BK1 := Aside0.mk hbox; have HB1 := Aside0.mk (below_step HB.out hb); have GE1 := Aside0.mk (by rw [hg]; exact Nat.le_refl _ : w.heap.size ≤ g1); clear hb hbox hg; have hcz0 : w1.cell? ⟨g1, 0, none⟩ = some (.int .i64 x0) := (blk_cell BK1.out 0).trans rfl)
    | ((with_reducible refine gate_dst (N := 5) rfl ?_); refine box_event ?hg (N := 5) ?hd (cs := #[.int .i64 0, .int .i64 0, .int .i64 0, .int .i64 0, .int .i64 0]) (t := 41) ?hr ?_; (case hd => rfl); (case hg => rfl); (case hr => first | (go_simp; done) | (go_simp; rfl)); intro g2 hg w2 hbox hb; have hne := Aside0.mk (by rw [hg]; exact Nat.ne_of_lt (blk_lt (blk_drewN BK1.out _)) : g1 ≠ g2); have BK2 := Aside0.mk hbox; have HB2 := Aside0.mk (below_step (zB6_0) hb); have BK1' := Aside0.mk (blk_below (zJ6 BK1.out) hb); have GE2 := Aside0.mk (by rw [hg]; exact below_size (zB6_0) : w.heap.size ≤ g2); clear hb hbox hg BK1 HB1 HB; have hcy0 := (blk_cell BK2.out 0).trans rfl; have hcy1 := (blk_cell BK2.out 1).trans rfl; have hcy2 := (blk_cell BK2.out 2).trans rfl; have hcy3 := (blk_cell BK2.out 3).trans rfl; have hcy4 := (blk_cell BK2.out 4).trans rfl; have hfy0 := blk_frozen BK2.out 0; have hfy1 := blk_frozen BK2.out 1; have hfy2 := blk_frozen BK2.out 2; have hfy3 := blk_frozen BK2.out 3; have hfy4 := blk_frozen BK2.out 4)
    | (go_at_call 52; refine (impl_form.calls k x0 s ok _ HF.out).mono ?_; rintro e w' ⟨rfl, ⟨nd, rfl⟩⟩))
  clear hcz0 hcy0 hcy1 hcy2 hcy3 hcy4 hfy0 hfy1 hfy2 hfy3 hfy4
  go_loopw [18] (fun v wr => ∃ i : Nat, Aside0 (i ≤ s.size) ∧ v = .int .i64 i ∧ Aside0 (wr.heap[g1]? = some (.cells (insCells (x0, x1, x2, x3, x4)) 41 (0, 0))) ∧ Aside0 (wr.heap[g2]? = some (.cells (insCells (insFold s (x0, x1, x2, x3, x4) i)) 41 (0, 0))) ∧ Aside0 (Below w.heap.size w wr)) (fun v _ => s.size - (intOf v).toNat)
  case atStart =>
    refine ⟨0, ⟨Nat.zero_le _⟩, rfl, ⟨?_⟩, ⟨?_⟩, ⟨?_⟩⟩
    · refine blk_far (blk_far (blk_far (blk_far (blk_far BK1'.out ?_ _) ?_ _) ?_ _) ?_ _) ?_ _ <;> exact hne.out
    · exact blk_set (blk_set (blk_set (blk_set (blk_set BK2.out 0 _) 1 _) 2 _) 3 _) 4 _
    · exact below_set (below_set (below_set (below_set (below_set HB2.out GE2.out) GE2.out) GE2.out) GE2.out) GE2.out
  case round =>
    obtain ⟨i, hi, rfl, BK1, BK2, HB⟩ := hrel
    by_cases hlt : i < s.size
    · have hbt : bt s (i : Int) = ((s[i].toNat : Nat) : Int) := (bt_at s (i : Int) (by simpa using hlt)).symm
      have HBT := Aside0.mk hbt
      clear hbt
      have hld : wr.cell? ⟨g1, placeOff ((s[i].toNat : Nat) : Int), none⟩ = some (.int .i64 (insPick (x0, x1, x2, x3, x4) ((s[i].toNat : Nat) : Int))) := (blk_cell BK1.out _).trans (insCells_get _ _)
      have hst : wr.cell? ⟨g2, placeOff ((s[i].toNat : Nat) : Int), none⟩ = some (.int .i64 (insPick (insFold s (x0, x1, x2, x3, x4) i) ((s[i].toNat : Nat) : Int))) := (blk_cell BK2.out _).trans (insCells_get _ _)
      have hfz := blk_frozen BK2.out (placeOff ((s[i].toNat : Nat) : Int))
      have H1 := Aside0.mk hst
      have H2 := Aside0.mk hfz
      clear hst hfz
      go_wp2_with fail
      go_still_tail 11, (by kernel_rfl)
      still_call (place_calls _ _ _)
      repeat still_step
      still_call (place_calls _ _ _)
      repeat still_step
      refine wpStill_nil ?_
      change wpList _ _ _ _ _ wr.drew
      have hst := H1.out
      have hfz := H2.out
      go_wp2
      go_roundw
      case rel =>
        refine ⟨i + 1, ⟨hlt⟩, by go_num, ⟨?_⟩, ⟨?_⟩, ⟨?_⟩⟩
        · exact blk_far (blk_drew BK1.out) hne.out _
        · rw [insFold_succ, HBT.out, ← insCells_put]; exact blk_set (blk_drew BK2.out) _ _
        · exact below_set (below_drew1 HB.out) GE2.out
      case measure => simp [intOf]; omega
    have HN := Aside0.mk hlt
    have hi' : i = s.size := by have := hi.out; omega
    subst hi'
    have BK2' : wr.heap[g2]? = some (.cells #[.int .i64 y0, .int .i64 y1, .int .i64 y2, .int .i64 y3, .int .i64 y4] 41 (0, 0)) := by have h_ := BK2.out; rw [HY.out] at h_; exact h_
    clear BK2
    have hcx0 : wr.cell? ⟨g1, 0, none⟩ = some (.int .i64 x0) := (blk_cell BK1.out 0).trans rfl
    have hcx1 : wr.cell? ⟨g1, 1, none⟩ = some (.int .i64 x1) := (blk_cell BK1.out 1).trans rfl
    have hcx2 : wr.cell? ⟨g1, 2, none⟩ = some (.int .i64 x2) := (blk_cell BK1.out 2).trans rfl
    have hcx3 : wr.cell? ⟨g1, 3, none⟩ = some (.int .i64 x3) := (blk_cell BK1.out 3).trans rfl
    have hcx4 : wr.cell? ⟨g1, 4, none⟩ = some (.int .i64 x4) := (blk_cell BK1.out 4).trans rfl
    have hcy0 : wr.cell? ⟨g2, 0, none⟩ = some (.int .i64 y0) := (blk_cell BK2' 0).trans rfl
    have hcy1 : wr.cell? ⟨g2, 1, none⟩ = some (.int .i64 y1) := (blk_cell BK2' 1).trans rfl
    have hcy2 : wr.cell? ⟨g2, 2, none⟩ = some (.int .i64 y2) := (blk_cell BK2' 2).trans rfl
    have hcy3 : wr.cell? ⟨g2, 3, none⟩ = some (.int .i64 y3) := (blk_cell BK2' 3).trans rfl
    have hcy4 : wr.cell? ⟨g2, 4, none⟩ = some (.int .i64 y4) := (blk_cell BK2' 4).trans rfl
    clear BK1 BK2'
    cases ok
    · go_wp2_with (first | (go_at_call 33; with_reducible refine (impl_from.calls x1 0 3 _ _ F1.out).mono ?_; rintro e w' ⟨rfl, ⟨nd, rfl⟩⟩) | (go_at_call 33; with_reducible refine (impl_from.calls x2 0 3 _ _ F2.out).mono ?_; rintro e w' ⟨rfl, ⟨nd, rfl⟩⟩) | (go_at_call 33; with_reducible refine (impl_from.calls x3 0 3 _ _ F3.out).mono ?_; rintro e w' ⟨rfl, ⟨nd, rfl⟩⟩) | (go_at_call 33; with_reducible refine (impl_from.calls x4 0 63 _ _ F4.out).mono ?_; rintro e w' ⟨rfl, ⟨nd, rfl⟩⟩))
      go_ret
      exact ⟨rfl, by repeat (first | exact HB.out | apply pw_below_drewN | apply below_drew1)⟩
    generalize hE : (y0 == x0 && (y1 == x1 && (y2 == x2 && (y3 == x3 && (y4 == x4))))) = E
    cases E
    · go_wp2_with (first | (go_at_call 33; with_reducible refine (impl_from.calls x1 0 3 _ _ F1.out).mono ?_; rintro e w' ⟨rfl, ⟨nd, rfl⟩⟩) | (go_at_call 33; with_reducible refine (impl_from.calls x2 0 3 _ _ F2.out).mono ?_; rintro e w' ⟨rfl, ⟨nd, rfl⟩⟩) | (go_at_call 33; with_reducible refine (impl_from.calls x3 0 3 _ _ F3.out).mono ?_; rintro e w' ⟨rfl, ⟨nd, rfl⟩⟩) | (go_at_call 33; with_reducible refine (impl_from.calls x4 0 63 _ _ F4.out).mono ?_; rintro e w' ⟨rfl, ⟨nd, rfl⟩⟩))
      go_ret
      exact ⟨by rw [hE]; rfl, by repeat (first | exact HB.out | apply pw_below_drewN | apply below_drew1)⟩
    cases b1
    · go_wp2_with (first | (go_at_call 33; with_reducible refine (impl_from.calls x1 0 3 _ _ F1.out).mono ?_; rintro e w' ⟨rfl, ⟨nd, rfl⟩⟩) | (go_at_call 33; with_reducible refine (impl_from.calls x2 0 3 _ _ F2.out).mono ?_; rintro e w' ⟨rfl, ⟨nd, rfl⟩⟩) | (go_at_call 33; with_reducible refine (impl_from.calls x3 0 3 _ _ F3.out).mono ?_; rintro e w' ⟨rfl, ⟨nd, rfl⟩⟩) | (go_at_call 33; with_reducible refine (impl_from.calls x4 0 63 _ _ F4.out).mono ?_; rintro e w' ⟨rfl, ⟨nd, rfl⟩⟩))
      go_ret
      exact ⟨by rw [hE]; rfl, by repeat (first | exact HB.out | apply pw_below_drewN | apply below_drew1)⟩
    cases b2
    · go_wp2_with (first | (go_at_call 33; with_reducible refine (impl_from.calls x1 0 3 _ _ F1.out).mono ?_; rintro e w' ⟨rfl, ⟨nd, rfl⟩⟩) | (go_at_call 33; with_reducible refine (impl_from.calls x2 0 3 _ _ F2.out).mono ?_; rintro e w' ⟨rfl, ⟨nd, rfl⟩⟩) | (go_at_call 33; with_reducible refine (impl_from.calls x3 0 3 _ _ F3.out).mono ?_; rintro e w' ⟨rfl, ⟨nd, rfl⟩⟩) | (go_at_call 33; with_reducible refine (impl_from.calls x4 0 63 _ _ F4.out).mono ?_; rintro e w' ⟨rfl, ⟨nd, rfl⟩⟩))
      go_ret
      exact ⟨by rw [hE]; rfl, by repeat (first | exact HB.out | apply pw_below_drewN | apply below_drew1)⟩
    cases b3
    · go_wp2_with (first | (go_at_call 33; with_reducible refine (impl_from.calls x1 0 3 _ _ F1.out).mono ?_; rintro e w' ⟨rfl, ⟨nd, rfl⟩⟩) | (go_at_call 33; with_reducible refine (impl_from.calls x2 0 3 _ _ F2.out).mono ?_; rintro e w' ⟨rfl, ⟨nd, rfl⟩⟩) | (go_at_call 33; with_reducible refine (impl_from.calls x3 0 3 _ _ F3.out).mono ?_; rintro e w' ⟨rfl, ⟨nd, rfl⟩⟩) | (go_at_call 33; with_reducible refine (impl_from.calls x4 0 63 _ _ F4.out).mono ?_; rintro e w' ⟨rfl, ⟨nd, rfl⟩⟩))
      go_ret
      exact ⟨by rw [hE]; rfl, by repeat (first | exact HB.out | apply pw_below_drewN | apply below_drew1)⟩
    go_wp2_with (first | (go_at_call 33; with_reducible refine (impl_from.calls x1 0 3 _ _ F1.out).mono ?_; rintro e w' ⟨rfl, ⟨nd, rfl⟩⟩) | (go_at_call 33; with_reducible refine (impl_from.calls x2 0 3 _ _ F2.out).mono ?_; rintro e w' ⟨rfl, ⟨nd, rfl⟩⟩) | (go_at_call 33; with_reducible refine (impl_from.calls x3 0 3 _ _ F3.out).mono ?_; rintro e w' ⟨rfl, ⟨nd, rfl⟩⟩) | (go_at_call 33; with_reducible refine (impl_from.calls x4 0 63 _ _ F4.out).mono ?_; rintro e w' ⟨rfl, ⟨nd, rfl⟩⟩))
    go_ret
    exact ⟨by rw [hE]; rfl, by repeat (first | exact HB.out | apply pw_below_drewN | apply below_drew1)⟩
/-- Is it an Ins: what an Op does not have is 0; the others in range. -/
def insOkB (o r a b n : Int) : Bool :=
  (if o = 1 then decide (a = 0) && decide (b = 0) else if o = 2 then decide (n = 0) else if o = 3 then decide (b = 0) else if o = 4 then decide (b = 0) else if o = 5 then decide (r = 0) else if o = 6 then true
   else if o = 7 then decide (r = 0) && decide (b = 0) else if o = 8 then decide (r = 0) && (decide (a = 0) && decide (b = 0)) else if o = 9 then decide (r = 0) && (decide (a = 0) && (decide (b = 0) && decide (n = 0))) else if o = 10 then decide (n = 0) else false)
  && (decide (0 ≤ r ∧ r ≤ 3) && (decide (0 ≤ a ∧ a ≤ 3) && (decide (0 ≤ b ∧ b ≤ 3) && decide (0 ≤ n ∧ n ≤ 63))))
def impl_InsOk.f (a0_0 a0_1 a0_2 a0_3 a0_4 : Int) : Option Bool := some (insOkB a0_0 a0_1 a0_2 a0_3 a0_4)
theorem insFrom (x lo hi : Int) : impl_from.f x lo hi = some (decide (lo ≤ x ∧ x ≤ hi)) := by
  unfold impl_from.f
  by_cases h : x ≥ lo
  · rw [if_pos h]; have h' : lo ≤ x := h; simp [h']
  rw [if_neg h]; have h' : ¬ lo ≤ x := h; simp [h']
theorem insBeq (x y : Int) : (x == y) = decide (y = x) := by
  by_cases h : x = y
  · subst h; simp
  have h' : ¬ y = x := fun e => h e.symm
  simp [h, h']
theorem insForm (x0 x1 x2 x3 x4 : Int) : ∃ (s : ByteArray) (ok : Bool) (y0 y1 y2 y3 y4 : Int), s.size ≤ 4 ∧ impl_form.f 3 x0 = some (s, ok) ∧ insFold s (x0, x1, x2, x3, x4) s.size = (y0, y1, y2, y3, y4) ∧
    (ok && ((y0 == x0 && (y1 == x1 && (y2 == x2 && (y3 == x3 && (y4 == x4))))) && (decide (0 ≤ x1 ∧ x1 ≤ 3) && (decide (0 ≤ x2 ∧ x2 ≤ 3) && (decide (0 ≤ x3 ∧ x3 ≤ 3) && decide (0 ≤ x4 ∧ x4 ≤ 63)))))) = insOkB x0 x1 x2 x3 x4 := by
  by_cases h1 : x0 = 1
  · subst h1; exact ⟨⟨#[82, 78]⟩, true, 1, x1, 0, 0, x4, by decide, rfl, rfl, by simp [insOkB, insBeq, Bool.and_assoc]⟩
  by_cases h2 : x0 = 2
  · subst h2; exact ⟨⟨#[82, 65, 66]⟩, true, 2, x1, x2, x3, 0, by decide, rfl, rfl, by simp [insOkB, insBeq, Bool.and_assoc]⟩
  by_cases h3 : x0 = 3
  · subst h3; exact ⟨⟨#[82, 65, 78]⟩, true, 3, x1, x2, 0, x4, by decide, rfl, rfl, by simp [insOkB, insBeq, Bool.and_assoc]⟩
  by_cases h4 : x0 = 4
  · subst h4; exact ⟨⟨#[82, 65, 78]⟩, true, 4, x1, x2, 0, x4, by decide, rfl, rfl, by simp [insOkB, insBeq, Bool.and_assoc]⟩
  by_cases h5 : x0 = 5
  · subst h5; exact ⟨⟨#[65, 66, 78]⟩, true, 5, 0, x2, x3, x4, by decide, rfl, rfl, by simp [insOkB, insBeq, Bool.and_assoc]⟩
  by_cases h6 : x0 = 6
  · subst h6; exact ⟨⟨#[82, 65, 66, 78]⟩, true, 6, x1, x2, x3, x4, by decide, rfl, rfl, by simp [insOkB, insBeq, Bool.and_assoc]⟩
  by_cases h7 : x0 = 7
  · subst h7; exact ⟨⟨#[65, 78]⟩, true, 7, 0, x2, 0, x4, by decide, rfl, rfl, by simp [insOkB, insBeq, Bool.and_assoc]⟩
  by_cases h8 : x0 = 8
  · subst h8; exact ⟨⟨#[78]⟩, true, 8, 0, 0, 0, x4, by decide, rfl, rfl, by simp [insOkB, insBeq, Bool.and_assoc]⟩
  by_cases h9 : x0 = 9
  · subst h9; exact ⟨⟨#[]⟩, true, 9, 0, 0, 0, 0, by decide, rfl, rfl, by simp [insOkB, insBeq, Bool.and_assoc]⟩
  by_cases h10 : x0 = 10
  · subst h10; exact ⟨⟨#[82, 65, 66]⟩, true, 10, x1, x2, x3, 0, by decide, rfl, rfl, by simp [insOkB, insBeq, Bool.and_assoc]⟩
  exact ⟨⟨#[]⟩, false, x0, 0, 0, 0, 0, by decide, by simp [impl_form.f, impl_form.j0, impl_form.j1, h1, h2, h3, h4, h5, h6, h7, h8, h9, h10], rfl, by simp [insOkB, h1, h2, h3, h4, h5, h6, h7, h8, h9, h10]⟩
theorem impl_InsOk.calls (a0_0 : Int) (a0_1 : Int) (a0_2 : Int) (a0_3 : Int) (a0_4 : Int) (r : Bool) (w : World) (h : impl_InsOk.f a0_0 a0_1 a0_2 a0_3 a0_4 = some r) :
    Calls Try.prog 35 #[.agg #[.int .i64 a0_0, .int .i64 a0_1, .int .i64 a0_2, .int .i64 a0_3, .int .i64 a0_4]] w fun e w' => e = .returned (.bool r) ∧ Below w.heap.size w w' := by
  obtain ⟨s, ok, y0, y1, y2, y3, y4, hs, hf, hy, hb⟩ := insForm a0_0 a0_1 a0_2 a0_3 a0_4
  obtain rfl := Option.some.inj h
  rw [← hb]
  exact insOk_calls 3 _ _ _ _ _ s ok w hs hf y0 y1 y2 y3 y4 hy _ _ _ _ (insFrom _ _ _) (insFrom _ _ _) (insFrom _ _ _) (insFrom _ _ _)

/-! ### impl_Decode: function 16 -/
def impl_Decode.f (a0 : Int) : Option (Int × Int × Int × Int × Int × Bool) := (impl_isWord.f a0).bind fun t343 => (if t343 = true then ((impl_InsOk.f (Int.tmod a0 16) (Int.tmod (wrap64 (Int.tdiv a0 16)) 4) (Int.tmod (wrap64 (Int.tdiv a0 64)) 4) (Int.tmod (wrap64 (Int.tdiv a0 256)) 4) (wrap64 (Int.tdiv a0 1024))).bind fun t345 => (if t345 = true then (some (Int.tmod a0 16, Int.tmod (wrap64 (Int.tdiv a0 16)) 4, Int.tmod (wrap64 (Int.tdiv a0 64)) 4, Int.tmod (wrap64 (Int.tdiv a0 256)) 4, wrap64 (Int.tdiv a0 1024), true)) else (some (0, 0, 0, 0, 0, false)))) else (some (0, 0, 0, 0, 0, false)))
set_option maxHeartbeats 8000000 in
set_option maxRecDepth 100000 in
theorem impl_Decode.calls (a0 : Int) (r1 : Int) (r2 : Int) (r3 : Int) (r4 : Int) (r5 : Int) (r6 : Bool) (w : World) (h : impl_Decode.f a0 = some (r1, r2, r3, r4, r5, r6)) :
    Calls Try.prog 16 #[.int .i64 a0] w fun e w' => e = .returned (.tuple #[.agg #[.int .i64 r1, .int .i64 r2, .int .i64 r3, .int .i64 r4, .int .i64 r5], .bool r6]) ∧ Below w.heap.size w w' := by
  have hu41 := Try.underlying41
  have HB := Aside0.mk (Below.refl w.heap.size w)
  have H : ((impl_isWord.f a0).bind fun t343 => (if t343 = true then ((impl_InsOk.f (Int.tmod a0 16) (Int.tmod (wrap64 (Int.tdiv a0 16)) 4) (Int.tmod (wrap64 (Int.tdiv a0 64)) 4) (Int.tmod (wrap64 (Int.tdiv a0 256)) 4) (wrap64 (Int.tdiv a0 1024))).bind fun t345 => (if t345 = true then (some (Int.tmod a0 16, Int.tmod (wrap64 (Int.tdiv a0 16)) 4, Int.tmod (wrap64 (Int.tdiv a0 64)) 4, Int.tmod (wrap64 (Int.tdiv a0 256)) 4, wrap64 (Int.tdiv a0 1024), true)) else (some (0, 0, 0, 0, 0, false)))) else (some (0, 0, 0, 0, 0, false)))) = some (r1, r2, r3, r4, r5, r6) := h
  clear h
  replace H := Option.bind_eq_some_iff.mp H
  obtain ⟨t343, A20, H⟩ := H
  replace H : (if t343 = true then ((impl_InsOk.f (Int.tmod a0 16) (Int.tmod (wrap64 (Int.tdiv a0 16)) 4) (Int.tmod (wrap64 (Int.tdiv a0 64)) 4) (Int.tmod (wrap64 (Int.tdiv a0 256)) 4) (wrap64 (Int.tdiv a0 1024))).bind fun t345 => (if t345 = true then (some (Int.tmod a0 16, Int.tmod (wrap64 (Int.tdiv a0 16)) 4, Int.tmod (wrap64 (Int.tdiv a0 64)) 4, Int.tmod (wrap64 (Int.tdiv a0 256)) 4, wrap64 (Int.tdiv a0 1024), true)) else (some (0, 0, 0, 0, 0, false)))) else (some (0, 0, 0, 0, 0, false))) = some (r1, r2, r3, r4, r5, r6) := H
  have A2 := Aside0.mk A20
  clear A20
  by_cases c3 : t343 = true
  rotate_left
  · replace c3 := Bool.eq_false_iff.mpr c3
    subst c3
    have H1 : (some (0, 0, 0, 0, 0, false)) = some (r1, r2, r3, r4, r5, r6) := by rw [if_neg (show ¬ (false = true) by decide)] at H; exact H
    clear H
    have H := H1
    clear H1
    simp only [Option.some.injEq, Prod.mk.injEq] at H
    obtain ⟨rfl, rfl, rfl, rfl, rfl, rfl⟩ := H
    go_enter Try.func16, Try.ntmps16
    go_wp2_with (first | ((with_reducible refine gate_dst (N := 2) rfl ?_); refine box_event ?hg (N := 2) ?hd (cs := #[.int .i64 0, .int .i64 0, .int .i64 0, .int .i64 0, .int .i64 0]) (t := 41) ?hr ?_; (case hd => rfl); (case hg => rfl); (case hr => first | (go_simp; done) | (go_simp; rfl)); intro gb342 hg w19 hbox hb; have n0_ := Aside0.mk (below_step (zB6_1) hb); have n1_ := Aside0.mk (hbox); have n2_ := Aside0.mk ((by rw [hg]; exact (below_size (zB6_1)) : w.heap.size ≤ gb342)); have n3_ := Aside0.mk ((by rw [hg]; exact (below_size (zB6_1)) : w.heap.size ≤ gb342)); clear HB; have HB := n0_; have BK342 := n1_; have GW342 := n2_; have GE342 := n3_; clear n0_ n1_ n2_ n3_; clear hb hbox hg) | ((with_reducible refine gate_callee (f := 34) rfl ?_); refine goesL_ (some 6) rfl rfl Try.func34 (by kernel_rfl) rfl #[.int .i64 a0] rfl zT6 ?_; (with_reducible refine (impl_isWord.calls a0 false _ A2.out).mono ?_); rintro e w' ⟨rfl, ⟨nd, rfl⟩⟩; refine ⟨_, rfl, ?_⟩; (try (rw [drewN_self w19]; generalize hq_ : World.drewN w19 _ = w19; have n0_ : Aside0 (w19.heap[gb342]? = some (.cells #[.int .i64 0, .int .i64 0, .int .i64 0, .int .i64 0, .int .i64 0] 41 (0, 0))) := ⟨by rw [← hq_]; exact (zK6 BK342.out)⟩; have n1_ : Aside0 (Below w.heap.size w w19) := ⟨by rw [← hq_]; exact (zB6_2)⟩; clear BK342 HB hq_; have BK342 := n0_; have HB := n1_; clear n0_ n1_)); obtain ⟨hcz20_0, hcz20_1, hcz20_2, hcz20_3, hcz20_4, hfz20_0, hfz20_1, hfz20_2, hfz20_3, hfz20_4⟩ := zc6_5 (w := w19) BK342.out))
    refine bodyPost_ret (results_ct rfl _ _ gb342 41 #[.int .i64 0, .int .i64 0, .int .i64 0, .int .i64 0, .int .i64 0] (0, 0) _ rfl (by refine zP6 ?_; refine blk_put (cs := #[.int .i64 0, .int .i64 0, .int .i64 0, .int .i64 0, .int .i64 0]) ?_ 4 _ rfl; refine zP6 ?_; refine blk_put (cs := #[.int .i64 0, .int .i64 0, .int .i64 0, .int .i64 0, .int .i64 0]) ?_ 3 _ rfl; refine zP6 ?_; refine blk_put (cs := #[.int .i64 0, .int .i64 0, .int .i64 0, .int .i64 0, .int .i64 0]) ?_ 2 _ rfl; refine zP6 ?_; refine blk_put (cs := #[.int .i64 0, .int .i64 0, .int .i64 0, .int .i64 0, .int .i64 0]) ?_ 1 _ rfl; refine zP6 ?_; refine blk_put (cs := #[.int .i64 0, .int .i64 0, .int .i64 0, .int .i64 0, .int .i64 0]) ?_ 0 _ rfl; refine zP6 ?_; exact BK342.out) Try.underlying41 rfl (by kernel_rfl)) rfl ?_
    exact ⟨zE6, zB6_2⟩
  subst c3
  have H1 : ((impl_InsOk.f (Int.tmod a0 16) (Int.tmod (wrap64 (Int.tdiv a0 16)) 4) (Int.tmod (wrap64 (Int.tdiv a0 64)) 4) (Int.tmod (wrap64 (Int.tdiv a0 256)) 4) (wrap64 (Int.tdiv a0 1024))).bind fun t345 => (if t345 = true then (some (Int.tmod a0 16, Int.tmod (wrap64 (Int.tdiv a0 16)) 4, Int.tmod (wrap64 (Int.tdiv a0 64)) 4, Int.tmod (wrap64 (Int.tdiv a0 256)) 4, wrap64 (Int.tdiv a0 1024), true)) else (some (0, 0, 0, 0, 0, false)))) = some (r1, r2, r3, r4, r5, r6) := by rw [if_pos rfl] at H; exact H
  clear H
  have H := H1
  clear H1
  replace H := Option.bind_eq_some_iff.mp H
  obtain ⟨t345, A40, H⟩ := H
  replace H : (if t345 = true then (some (Int.tmod a0 16, Int.tmod (wrap64 (Int.tdiv a0 16)) 4, Int.tmod (wrap64 (Int.tdiv a0 64)) 4, Int.tmod (wrap64 (Int.tdiv a0 256)) 4, wrap64 (Int.tdiv a0 1024), true)) else (some (0, 0, 0, 0, 0, false))) = some (r1, r2, r3, r4, r5, r6) := H
  have A4 := Aside0.mk A40
  clear A40
  by_cases c5 : t345 = true
  rotate_left
  · replace c5 := Bool.eq_false_iff.mpr c5
    subst c5
    have H1 : (some (0, 0, 0, 0, 0, false)) = some (r1, r2, r3, r4, r5, r6) := by rw [if_neg (show ¬ (false = true) by decide)] at H; exact H
    clear H
    have H := H1
    clear H1
    simp only [Option.some.injEq, Prod.mk.injEq] at H
    obtain ⟨rfl, rfl, rfl, rfl, rfl, rfl⟩ := H
    go_enter Try.func16, Try.ntmps16
    go_wp2_with (first | ((with_reducible refine gate_dst (N := 2) rfl ?_); refine box_event ?hg (N := 2) ?hd (cs := #[.int .i64 0, .int .i64 0, .int .i64 0, .int .i64 0, .int .i64 0]) (t := 41) ?hr ?_; (case hd => rfl); (case hg => rfl); (case hr => first | (go_simp; done) | (go_simp; rfl)); intro gb342 hg w13 hbox hb; have n0_ := Aside0.mk (below_step (zB6_1) hb); have n1_ := Aside0.mk (hbox); have n2_ := Aside0.mk ((by rw [hg]; exact (below_size (zB6_1)) : w.heap.size ≤ gb342)); have n3_ := Aside0.mk ((by rw [hg]; exact (below_size (zB6_1)) : w.heap.size ≤ gb342)); clear HB; have HB := n0_; have BK342 := n1_; have GW342 := n2_; have GE342 := n3_; clear n0_ n1_ n2_ n3_; clear hb hbox hg) | ((with_reducible refine gate_callee (f := 34) rfl ?_); refine goesL_ (some 6) rfl rfl Try.func34 (by kernel_rfl) rfl #[.int .i64 a0] rfl zT6 ?_; (with_reducible refine (impl_isWord.calls a0 true _ A2.out).mono ?_); rintro e w' ⟨rfl, ⟨nd, rfl⟩⟩; refine ⟨_, rfl, ?_⟩; (try (rw [drewN_self w13]; generalize hq_ : World.drewN w13 _ = w13; have n0_ : Aside0 (w13.heap[gb342]? = some (.cells #[.int .i64 0, .int .i64 0, .int .i64 0, .int .i64 0, .int .i64 0] 41 (0, 0))) := ⟨by rw [← hq_]; exact (zK6 BK342.out)⟩; have n1_ : Aside0 (Below w.heap.size w w13) := ⟨by rw [← hq_]; exact (zB6_2)⟩; clear BK342 HB hq_; have BK342 := n0_; have HB := n1_; clear n0_ n1_))) | ((with_reducible refine gate_dst (N := 4) rfl ?_); refine box_event ?hg (N := 4) ?hd (cs := #[.int .i64 0, .int .i64 0, .int .i64 0, .int .i64 0, .int .i64 0]) (t := 41) ?hr ?_; (case hd => rfl); (case hg => rfl); (case hr => first | (go_simp; done) | (go_simp; rfl)); intro gb344 hg w14 hbox hb; have n0_ := Aside0.mk (zb6 BK342.out hb); have n1_ := Aside0.mk (below_step (zB6_2) hb); have n2_ := Aside0.mk (hbox); have n3_ := Aside0.mk ((by rw [hg]; exact (below_size (zB6_2)) : w.heap.size ≤ gb344)); have n4_ := Aside0.mk ((by rw [hg]; exact (below_size (zB6_2)) : w.heap.size ≤ gb344)); have n5_ := Aside0.mk ((zn6 BK342.out hg : gb342 ≠ gb344)); have n6_ := Aside0.mk ((zm6 BK342.out hg : gb344 ≠ gb342)); clear BK342; clear HB; have BK342 := n0_; have HB := n1_; have BK344 := n2_; have GW344 := n3_; have GE344 := n4_; have NB342_344 := n5_; have NB344_342 := n6_; clear n0_ n1_ n2_ n3_ n4_ n5_ n6_; clear hb hbox hg; have hnb15 := NB344_342.out; have hnc15 := NB342_344.out; obtain ⟨hcz16_0, hcz16_1, hcz16_2, hcz16_3, hcz16_4, hfz16_0, hfz16_1, hfz16_2, hfz16_3, hfz16_4⟩ := zc6_5 (w := w14) BK344.out) | ((with_reducible refine gate_callee (f := 35) rfl ?_); refine goesL_ (some 24) rfl rfl Try.func35 (by kernel_rfl) rfl #[.agg #[.int .i64 (Int.tmod a0 16), .int .i64 (Int.tmod (wrap64 (Int.tdiv a0 16)) 4), .int .i64 (Int.tmod (wrap64 (Int.tdiv a0 64)) 4), .int .i64 (Int.tmod (wrap64 (Int.tdiv a0 256)) 4), .int .i64 (wrap64 (Int.tdiv a0 1024))]] rfl zT6 ?_; (with_reducible refine (impl_InsOk.calls (Int.tmod a0 16) (Int.tmod (wrap64 (Int.tdiv a0 16)) 4) (Int.tmod (wrap64 (Int.tdiv a0 64)) 4) (Int.tmod (wrap64 (Int.tdiv a0 256)) 4) (wrap64 (Int.tdiv a0 1024)) false _ A4.out).mono ?_); rintro e w17 ⟨rfl, hb⟩; refine ⟨_, rfl, ?_⟩; have n0_ := Aside0.mk (blk_below (g := gb342) (o := .cells #[.int .i64 0, .int .i64 0, .int .i64 0, .int .i64 0, .int .i64 0] 41 (0, 0)) (by refine zP6 ?_; refine blk_far ?_ NB342_344.out _; refine zP6 ?_; refine blk_far ?_ NB342_344.out _; refine zP6 ?_; refine blk_far ?_ NB342_344.out _; refine zP6 ?_; refine blk_far ?_ NB342_344.out _; refine zP6 ?_; refine blk_far ?_ NB342_344.out _; refine zP6 ?_; exact BK342.out) hb); have n1_ := Aside0.mk (blk_below (g := gb344) (o := .cells #[.int .i64 (Int.tmod a0 16), .int .i64 (Int.tmod (wrap64 (Int.tdiv a0 16)) 4), .int .i64 (Int.tmod (wrap64 (Int.tdiv a0 64)) 4), .int .i64 (Int.tmod (wrap64 (Int.tdiv a0 256)) 4), .int .i64 (wrap64 (Int.tdiv a0 1024))] 41 (0, 0)) (by refine zP6 ?_; refine blk_put (cs := #[.int .i64 (Int.tmod a0 16), .int .i64 (Int.tmod (wrap64 (Int.tdiv a0 16)) 4), .int .i64 (Int.tmod (wrap64 (Int.tdiv a0 64)) 4), .int .i64 (Int.tmod (wrap64 (Int.tdiv a0 256)) 4), .int .i64 0]) ?_ 4 _ rfl; refine zP6 ?_; refine blk_put (cs := #[.int .i64 (Int.tmod a0 16), .int .i64 (Int.tmod (wrap64 (Int.tdiv a0 16)) 4), .int .i64 (Int.tmod (wrap64 (Int.tdiv a0 64)) 4), .int .i64 0, .int .i64 0]) ?_ 3 _ rfl; refine zP6 ?_; refine blk_put (cs := #[.int .i64 (Int.tmod a0 16), .int .i64 (Int.tmod (wrap64 (Int.tdiv a0 16)) 4), .int .i64 0, .int .i64 0, .int .i64 0]) ?_ 2 _ rfl; refine zP6 ?_; refine blk_put (cs := #[.int .i64 (Int.tmod a0 16), .int .i64 0, .int .i64 0, .int .i64 0, .int .i64 0]) ?_ 1 _ rfl; refine zP6 ?_; refine blk_put (cs := #[.int .i64 0, .int .i64 0, .int .i64 0, .int .i64 0, .int .i64 0]) ?_ 0 _ rfl; refine zP6 ?_; exact BK344.out) hb); have n2_ := Aside0.mk (below_step (zB6_3) hb); clear BK342; clear BK344; clear HB; have BK342 := n0_; have BK344 := n1_; have HB := n2_; clear n0_ n1_ n2_; (try clear hb); (try clear hb2); (try clear hk); (try clear hi); obtain ⟨hcz18_0, hcz18_1, hcz18_2, hcz18_3, hcz18_4, hfz18_0, hfz18_1, hfz18_2, hfz18_3, hfz18_4⟩ := zc6_5 (w := w17) BK342.out))
    refine bodyPost_ret (results_ct rfl _ _ gb342 41 #[.int .i64 0, .int .i64 0, .int .i64 0, .int .i64 0, .int .i64 0] (0, 0) _ rfl (by refine zP6 ?_; refine blk_put (cs := #[.int .i64 0, .int .i64 0, .int .i64 0, .int .i64 0, .int .i64 0]) ?_ 4 _ rfl; refine zP6 ?_; refine blk_put (cs := #[.int .i64 0, .int .i64 0, .int .i64 0, .int .i64 0, .int .i64 0]) ?_ 3 _ rfl; refine zP6 ?_; refine blk_put (cs := #[.int .i64 0, .int .i64 0, .int .i64 0, .int .i64 0, .int .i64 0]) ?_ 2 _ rfl; refine zP6 ?_; refine blk_put (cs := #[.int .i64 0, .int .i64 0, .int .i64 0, .int .i64 0, .int .i64 0]) ?_ 1 _ rfl; refine zP6 ?_; refine blk_put (cs := #[.int .i64 0, .int .i64 0, .int .i64 0, .int .i64 0, .int .i64 0]) ?_ 0 _ rfl; refine zP6 ?_; exact BK342.out) Try.underlying41 rfl (by kernel_rfl)) rfl ?_
    exact ⟨zE6, zB6_3⟩
  subst c5
  have H1 : (some (Int.tmod a0 16, Int.tmod (wrap64 (Int.tdiv a0 16)) 4, Int.tmod (wrap64 (Int.tdiv a0 64)) 4, Int.tmod (wrap64 (Int.tdiv a0 256)) 4, wrap64 (Int.tdiv a0 1024), true)) = some (r1, r2, r3, r4, r5, r6) := by rw [if_pos rfl] at H; exact H
  clear H
  have H := H1
  clear H1
  simp only [Option.some.injEq, Prod.mk.injEq] at H
  obtain ⟨rfl, rfl, rfl, rfl, rfl, rfl⟩ := H
  go_enter Try.func16, Try.ntmps16
  go_wp2_with (first | ((with_reducible refine gate_dst (N := 2) rfl ?_); refine box_event ?hg (N := 2) ?hd (cs := #[.int .i64 0, .int .i64 0, .int .i64 0, .int .i64 0, .int .i64 0]) (t := 41) ?hr ?_; (case hd => rfl); (case hg => rfl); (case hr => first | (go_simp; done) | (go_simp; rfl)); intro gb342 hg w6 hbox hb; have n0_ := Aside0.mk (below_step (zB6_1) hb); have n1_ := Aside0.mk (hbox); have n2_ := Aside0.mk ((by rw [hg]; exact (below_size (zB6_1)) : w.heap.size ≤ gb342)); have n3_ := Aside0.mk ((by rw [hg]; exact (below_size (zB6_1)) : w.heap.size ≤ gb342)); clear HB; have HB := n0_; have BK342 := n1_; have GW342 := n2_; have GE342 := n3_; clear n0_ n1_ n2_ n3_; clear hb hbox hg) | ((with_reducible refine gate_callee (f := 34) rfl ?_); refine goesL_ (some 6) rfl rfl Try.func34 (by kernel_rfl) rfl #[.int .i64 a0] rfl zT6 ?_; (with_reducible refine (impl_isWord.calls a0 true _ A2.out).mono ?_); rintro e w' ⟨rfl, ⟨nd, rfl⟩⟩; refine ⟨_, rfl, ?_⟩; (try (rw [drewN_self w6]; generalize hq_ : World.drewN w6 _ = w6; have n0_ : Aside0 (w6.heap[gb342]? = some (.cells #[.int .i64 0, .int .i64 0, .int .i64 0, .int .i64 0, .int .i64 0] 41 (0, 0))) := ⟨by rw [← hq_]; exact (zK6 BK342.out)⟩; have n1_ : Aside0 (Below w.heap.size w w6) := ⟨by rw [← hq_]; exact (zB6_2)⟩; clear BK342 HB hq_; have BK342 := n0_; have HB := n1_; clear n0_ n1_))) | ((with_reducible refine gate_dst (N := 4) rfl ?_); refine box_event ?hg (N := 4) ?hd (cs := #[.int .i64 0, .int .i64 0, .int .i64 0, .int .i64 0, .int .i64 0]) (t := 41) ?hr ?_; (case hd => rfl); (case hg => rfl); (case hr => first | (go_simp; done) | (go_simp; rfl)); intro gb344 hg w7 hbox hb; have n0_ := Aside0.mk (zb6 BK342.out hb); have n1_ := Aside0.mk (below_step (zB6_2) hb); have n2_ := Aside0.mk (hbox); have n3_ := Aside0.mk ((by rw [hg]; exact (below_size (zB6_2)) : w.heap.size ≤ gb344)); have n4_ := Aside0.mk ((by rw [hg]; exact (below_size (zB6_2)) : w.heap.size ≤ gb344)); have n5_ := Aside0.mk ((zn6 BK342.out hg : gb342 ≠ gb344)); have n6_ := Aside0.mk ((zm6 BK342.out hg : gb344 ≠ gb342)); clear BK342; clear HB; have BK342 := n0_; have HB := n1_; have BK344 := n2_; have GW344 := n3_; have GE344 := n4_; have NB342_344 := n5_; have NB344_342 := n6_; clear n0_ n1_ n2_ n3_ n4_ n5_ n6_; clear hb hbox hg; have hnb8 := NB344_342.out; have hnc8 := NB342_344.out; obtain ⟨hcz9_0, hcz9_1, hcz9_2, hcz9_3, hcz9_4, hfz9_0, hfz9_1, hfz9_2, hfz9_3, hfz9_4⟩ := zc6_5 (w := w7) BK344.out) | ((with_reducible refine gate_callee (f := 35) rfl ?_); refine goesL_ (some 24) rfl rfl Try.func35 (by kernel_rfl) rfl #[.agg #[.int .i64 (Int.tmod a0 16), .int .i64 (Int.tmod (wrap64 (Int.tdiv a0 16)) 4), .int .i64 (Int.tmod (wrap64 (Int.tdiv a0 64)) 4), .int .i64 (Int.tmod (wrap64 (Int.tdiv a0 256)) 4), .int .i64 (wrap64 (Int.tdiv a0 1024))]] rfl zT6 ?_; (with_reducible refine (impl_InsOk.calls (Int.tmod a0 16) (Int.tmod (wrap64 (Int.tdiv a0 16)) 4) (Int.tmod (wrap64 (Int.tdiv a0 64)) 4) (Int.tmod (wrap64 (Int.tdiv a0 256)) 4) (wrap64 (Int.tdiv a0 1024)) true _ A4.out).mono ?_); rintro e w10 ⟨rfl, hb⟩; refine ⟨_, rfl, ?_⟩; have n0_ := Aside0.mk (blk_below (g := gb342) (o := .cells #[.int .i64 0, .int .i64 0, .int .i64 0, .int .i64 0, .int .i64 0] 41 (0, 0)) (by refine zP6 ?_; refine blk_far ?_ NB342_344.out _; refine zP6 ?_; refine blk_far ?_ NB342_344.out _; refine zP6 ?_; refine blk_far ?_ NB342_344.out _; refine zP6 ?_; refine blk_far ?_ NB342_344.out _; refine zP6 ?_; refine blk_far ?_ NB342_344.out _; refine zP6 ?_; exact BK342.out) hb); have n1_ := Aside0.mk (blk_below (g := gb344) (o := .cells #[.int .i64 (Int.tmod a0 16), .int .i64 (Int.tmod (wrap64 (Int.tdiv a0 16)) 4), .int .i64 (Int.tmod (wrap64 (Int.tdiv a0 64)) 4), .int .i64 (Int.tmod (wrap64 (Int.tdiv a0 256)) 4), .int .i64 (wrap64 (Int.tdiv a0 1024))] 41 (0, 0)) (by refine zP6 ?_; refine blk_put (cs := #[.int .i64 (Int.tmod a0 16), .int .i64 (Int.tmod (wrap64 (Int.tdiv a0 16)) 4), .int .i64 (Int.tmod (wrap64 (Int.tdiv a0 64)) 4), .int .i64 (Int.tmod (wrap64 (Int.tdiv a0 256)) 4), .int .i64 0]) ?_ 4 _ rfl; refine zP6 ?_; refine blk_put (cs := #[.int .i64 (Int.tmod a0 16), .int .i64 (Int.tmod (wrap64 (Int.tdiv a0 16)) 4), .int .i64 (Int.tmod (wrap64 (Int.tdiv a0 64)) 4), .int .i64 0, .int .i64 0]) ?_ 3 _ rfl; refine zP6 ?_; refine blk_put (cs := #[.int .i64 (Int.tmod a0 16), .int .i64 (Int.tmod (wrap64 (Int.tdiv a0 16)) 4), .int .i64 0, .int .i64 0, .int .i64 0]) ?_ 2 _ rfl; refine zP6 ?_; refine blk_put (cs := #[.int .i64 (Int.tmod a0 16), .int .i64 0, .int .i64 0, .int .i64 0, .int .i64 0]) ?_ 1 _ rfl; refine zP6 ?_; refine blk_put (cs := #[.int .i64 0, .int .i64 0, .int .i64 0, .int .i64 0, .int .i64 0]) ?_ 0 _ rfl; refine zP6 ?_; exact BK344.out) hb); have n2_ := Aside0.mk (below_step (zB6_3) hb); clear BK342; clear BK344; clear HB; have BK342 := n0_; have BK344 := n1_; have HB := n2_; clear n0_ n1_ n2_; (try clear hb); (try clear hb2); (try clear hk); (try clear hi); obtain ⟨hcz11_0, hcz11_1, hcz11_2, hcz11_3, hcz11_4, hfz11_0, hfz11_1, hfz11_2, hfz11_3, hfz11_4⟩ := zc6_5 (w := w10) BK344.out; obtain ⟨hcz12_0, hcz12_1, hcz12_2, hcz12_3, hcz12_4, hfz12_0, hfz12_1, hfz12_2, hfz12_3, hfz12_4⟩ := zc6_5 (w := w10) BK342.out))
  refine bodyPost_ret (results_ct rfl _ _ gb342 41 #[.int .i64 (Int.tmod a0 16), .int .i64 (Int.tmod (wrap64 (Int.tdiv a0 16)) 4), .int .i64 (Int.tmod (wrap64 (Int.tdiv a0 64)) 4), .int .i64 (Int.tmod (wrap64 (Int.tdiv a0 256)) 4), .int .i64 (wrap64 (Int.tdiv a0 1024))] (0, 0) _ rfl (by refine zP6 ?_; refine blk_put (cs := #[.int .i64 (Int.tmod a0 16), .int .i64 (Int.tmod (wrap64 (Int.tdiv a0 16)) 4), .int .i64 (Int.tmod (wrap64 (Int.tdiv a0 64)) 4), .int .i64 (Int.tmod (wrap64 (Int.tdiv a0 256)) 4), .int .i64 0]) ?_ 4 _ rfl; refine zP6 ?_; refine blk_put (cs := #[.int .i64 (Int.tmod a0 16), .int .i64 (Int.tmod (wrap64 (Int.tdiv a0 16)) 4), .int .i64 (Int.tmod (wrap64 (Int.tdiv a0 64)) 4), .int .i64 0, .int .i64 0]) ?_ 3 _ rfl; refine zP6 ?_; refine blk_put (cs := #[.int .i64 (Int.tmod a0 16), .int .i64 (Int.tmod (wrap64 (Int.tdiv a0 16)) 4), .int .i64 0, .int .i64 0, .int .i64 0]) ?_ 2 _ rfl; refine zP6 ?_; refine blk_put (cs := #[.int .i64 (Int.tmod a0 16), .int .i64 0, .int .i64 0, .int .i64 0, .int .i64 0]) ?_ 1 _ rfl; refine zP6 ?_; refine blk_put (cs := #[.int .i64 0, .int .i64 0, .int .i64 0, .int .i64 0, .int .i64 0]) ?_ 0 _ rfl; refine zP6 ?_; exact BK342.out) Try.underlying41 rfl (by kernel_rfl)) rfl ?_
  exact ⟨zE6, zB6_3⟩

/-! ### impl_address: function 17 -/
def impl_address.f (a0 : Int) : Option (Int) := some (Int.tmod (wrap64 ((Int.tmod a0 24) + 24)) 24)
set_option maxHeartbeats 8000000 in
set_option maxRecDepth 100000 in
theorem impl_address.calls (a0 : Int) (r : Int) (w : World) (h : impl_address.f a0 = some r) :
    Calls Try.prog 17 #[.int .i64 a0] w fun e w' => e = .returned (.int .i64 r) ∧ Drawn0 w w' := by
  have H : (some (Int.tmod (wrap64 ((Int.tmod a0 24) + 24)) 24)) = some r := h
  clear h
  obtain rfl := Option.some.inj H
  go_enter Try.func17, Try.ntmps17
  go_wp2
  go_ret
  exact ⟨by first | rfl | (simp; done) | (simp [*]; done), by repeat (first | exact Drawn0.refl _ | apply Drawn0.step)⟩

/-! ### slices_Sort_int_int: function 18 -/
def sh.lays189_ren : Go.Shelf.Ren := ⟨fun | 189 => 18 | 125 => 37 | 257 => 36 | 128 => 63 | 129 => 64 | 294 => 54 | 295 => 55 | 296 => 56 | 297 => 57 | 298 => 58 | 299 => 59 | 216 => 60 | 300 => 61 | 301 => 62 | 328 => 69 | 329 => 70 | 330 => 71 | 331 => 72 | 332 => 73 | 215 => 74 | 343 => 76 | n => n, fun | 28 => 24 | 3 => 3 | 46 => 61 | 0 => 0 | 51 => 87 | 53 => 89 | 4 => 4 | 183 => 80 | 182 => 79 | 131 => 67 | 5 => 5 | 9 => 9 | 218 => 91 | 222 => 76 | 228 => 97 | 229 => 98 | n => n, fun | n => n⟩
theorem sh.lays189 : Go.Proofs.Lays.n189 Try.prog sh.lays189_ren := {
  mixed := by kernel_rfl
  f125 := Try.func37.trans (congrArg some (by kernel_rfl))
  f128 := Try.func63.trans (congrArg some (by kernel_rfl))
  f129 := Try.func64.trans (congrArg some (by kernel_rfl))
  f189 := Try.func18.trans (congrArg some (by kernel_rfl))
  f215 := Try.func74.trans (congrArg some (by kernel_rfl))
  f216 := Try.func60.trans (congrArg some (by kernel_rfl))
  f257 := Try.func36.trans (congrArg some (by kernel_rfl))
  f294 := Try.func54.trans (congrArg some (by kernel_rfl))
  f295 := Try.func55.trans (congrArg some (by kernel_rfl))
  f296 := Try.func56.trans (congrArg some (by kernel_rfl))
  f297 := Try.func57.trans (congrArg some (by kernel_rfl))
  f298 := Try.func58.trans (congrArg some (by kernel_rfl))
  f299 := Try.func59.trans (congrArg some (by kernel_rfl))
  f300 := Try.func61.trans (congrArg some (by kernel_rfl))
  f301 := Try.func62.trans (congrArg some (by kernel_rfl))
  f328 := Try.func69.trans (congrArg some (by kernel_rfl))
  f329 := Try.func70.trans (congrArg some (by kernel_rfl))
  f330 := Try.func71.trans (congrArg some (by kernel_rfl))
  f331 := Try.func72.trans (congrArg some (by kernel_rfl))
  f332 := Try.func73.trans (congrArg some (by kernel_rfl))
  f343 := Try.func76.trans (congrArg some (by kernel_rfl))
  t0 := Try.underlying0
  a0 := Try.isAgg0
  z0 := Try.sizeOf0
  v0 := Try.zeroValue0
  t3 := Try.underlying3
  a3 := Try.isAgg3
  z3 := Try.sizeOf3
  v3 := Try.zeroValue3
  t4 := Try.underlying4
  a4 := Try.isAgg4
  z4 := Try.sizeOf4
  v4 := Try.zeroValue4
  t5 := Try.underlying5
  a5 := Try.isAgg5
  z5 := Try.sizeOf5
  v5 := Try.zeroValue5
  t9 := Try.underlying9
  a9 := Try.isAgg9
  z9 := Try.sizeOf9
  v9 := Try.zeroValue9
  t28 := Try.underlying24
  a28 := Try.isAgg24
  z28 := Try.sizeOf24
  v28 := Try.zeroValue24
  t46 := Try.underlying61
  a46 := Try.isAgg61
  z46 := Try.sizeOf61
  v46 := Try.zeroValue61
  t51 := Try.underlying87
  a51 := Try.isAgg87
  z51 := Try.sizeOf87
  v51 := Try.zeroValue87
  t53 := Try.underlying89
  a53 := Try.isAgg89
  z53 := Try.sizeOf89
  v53 := Try.zeroValue89
  t131 := Try.underlying67
  a131 := Try.isAgg67
  z131 := Try.sizeOf67
  v131 := Try.zeroValue67
  t182 := Try.underlying79
  a182 := Try.isAgg79
  z182 := Try.sizeOf79
  v182 := Try.zeroValue79
  t183 := Try.underlying80
  a183 := Try.isAgg80
  z183 := Try.sizeOf80
  v183 := Try.zeroValue80
  t218 := Try.underlying91
  a218 := Try.isAgg91
  z218 := Try.sizeOf91
  v218 := Try.zeroValue91
  t222 := Try.underlying76
  a222 := Try.isAgg76
  z222 := Try.sizeOf76
  v222 := Try.zeroValue76
  t228 := Try.underlying97
  a228 := Try.isAgg97
  z228 := Try.sizeOf97
  v228 := Try.zeroValue97
  t229 := Try.underlying98
  a229 := Try.isAgg98
  z229 := Try.sizeOf98
  v229 := Try.zeroValue98 }
open Go.Sort Go.RowKit in
theorem sh.slices_Sort_int (blk off cap : Nat) (zs : List Int) (w : World) (hH : Holds (Value.int .i64) w blk off zs.toArray) (hblk : blk < w.heap.size) (hsz : zs.length < 4611686018427387904) :
    Calls Try.prog 18 #[.slice (some ⟨blk, off, none⟩) zs.length cap] w fun e w' =>
      e = .returned (.tuple #[]) ∧ ∃ n os, w' = grow (putRow (Value.int .i64) (Sort.ahead w n) blk off (zs.mergeSort fun x y => decide (x ≤ y)).toArray) os := Any.slices_Sort_int sh.lays189 blk off cap zs w hH hblk hsz
open Go.RowKit Go.Sort in
theorem sh.slices_Sort_int_none (p : Option Addr) (cap : Nat) (w : World) :
    Calls Try.prog 18 #[.slice p 0 cap] w fun e w' => e = .returned (.tuple #[]) ∧ w' = w := Any.slices_Sort_int_none sh.lays189 p cap w
/-- A row of whole numbers, laid over. -/
theorem lay_ints {e base g n cap q : Nat} {ok : Nat → Prop} {W W1 : World} {xs ys zs : List Int} (h : (Kd.int .i64).R e W base ok (.slice (some ⟨g, 0, none⟩) n cap) xs) (hl : (ys ++ zs).length = xs.length) (hw : W1 = (W.drewN q).setCells g 0 ((ys ++ zs).map (Value.int .i64))) :
    (Kd.int .i64).R e W1 base ok (.slice (some ⟨g, 0, none⟩) ys.length cap) ys ∧ (∀ B, B ≤ g → Below B W W1) ∧ Kept W W1 (fun k => k = g) := by
  have hok := h.1
  have ho := Kd.own_of_R (show (Kd.scalar (Value.int .i64) (fun _ => rfl)).R e W base ok (.slice (some ⟨g, 0, none⟩) n cap) xs from h)
  obtain ⟨ho1, ho2⟩ := ho
  rcases ho2 with ⟨hv, _⟩ | ⟨g', cap', cur, hv, hb, hh, hnc, hcm, hcs, ht⟩
  · cases hv
  injection hv with ha _ hc
  injection ha with ha
  injection ha with hg
  subst hg; subst hc
  have hvl : ((ys ++ zs).map (Value.int .i64)).length = xs.length := by rw [List.length_map, hl]
  obtain ⟨cur', h3, h4, h5⟩ := setCells_row ((ys ++ zs).map (Value.int .i64)) 0 (W.drewN q) cur hh (by omega)
  obtain ⟨s1, s2, s3, s4⟩ := setCells_same g ((ys ++ zs).map (Value.int .i64)) 0 (W.drewN q)
  have hfar : ∀ k, k ≠ g → ((W.drewN q).setCells g 0 ((ys ++ zs).map (Value.int .i64))).heap[k]? = W.heap[k]? := fun k hk => setCells_far _ _ k hk
  have hyl : ys.length ≤ xs.length := by rw [List.length_append] at hl; omega
  subst hw
  refine ⟨Kd.R_of_own (h1 := fun _ => rfl) ⟨by simp [encs], .inr ⟨g, cap, cur', rfl, hb, h3, by omega, hcm, by rw [h4, hcs], ?_⟩⟩ (fun k hk => hok k hk), fun B hB => ⟨s1, s2, s3, by rw [s4]; exact Nat.le_refl _, fun k hk => hfar k (by omega)⟩, ⟨by rw [s4]; exact Nat.le_refl _, fun k _ hk => hfar k hk⟩⟩
  rw [h5, Nat.mul_one, List.take_zero, List.nil_append, List.map_append, List.append_assoc, List.take_append_of_le_length (by rw [List.length_map]; exact Nat.le_refl _), List.take_of_length_le (by rw [List.length_map]; exact Nat.le_refl _)]
  rfl
def slices_Sort_int_int.f (l0 : List Int) : Option (List Int) := if l0.length < 4611686018427387904 then some (l0.mergeSort fun x y => decide (x ≤ y)) else none
theorem slices_Sort_int_int.calls (P0_ : Nat → Prop) (u9000_ : Value) (l0 : List Int) (r : List Int) (w0 w : World) (hB : Below w0.heap.size w0 w) (ho0 : Kd.R (Kd.int .i64) 3 w w0.heap.size P0_ u9000_ l0) (h : slices_Sort_int_int.f l0 = some r) :
    Calls Try.prog 18 #[u9000_] w fun e w' => e = .returned (.tuple #[]) ∧ Kd.R (Kd.int .i64) 3 w' w0.heap.size (fun k_ => (P0_ k_ ∨ w.heap.size ≤ k_)) u9000_ r ∧ Below w0.heap.size w0 w' ∧ Kept w w' (fun k_ => P0_ k_) := by
  have hlm : l0.length < 4611686018427387904 := by
    by_cases c : l0.length < 4611686018427387904
    · exact c
    unfold slices_Sort_int_int.f at h; rw [if_neg c] at h; cases h
  unfold slices_Sort_int_int.f at h
  rw [if_pos hlm] at h
  obtain rfl := Option.some.inj h
  obtain ⟨A, c, hu, hlc, hC⟩ := Kd.R_reads ho0
  rcases Nat.eq_zero_or_pos l0.length with hz | hp
  · obtain rfl := List.eq_nil_of_length_eq_zero hz
    subst hu
    exact (sh.slices_Sort_int_none A c w).mono fun e w' ⟨he, hw⟩ => by
      subst hw
      exact ⟨he, Kd.R_mono (by simpa using ho0) (fun k hk => .inl hk), hB, Kept.refl _ _⟩
  · obtain ⟨g, cap, hv, hg1, hg2, _⟩ := Kd.R_form ho0 hp
    subst hv
    have hS : (Kd.scalar (Value.int .i64) (fun _ => rfl)).R 3 w w0.heap.size P0_ (.slice (some ⟨g, 0, none⟩) l0.length cap) l0 := ho0
    have hcell : ∀ j, j < l0.length → w.cell? ⟨g, 0 + j, none⟩ = some (.int .i64 (l0.getD j 0)) ∧ w.frozen? ⟨g, 0 + j, none⟩ = false := fun j hj => by
      have := Kd.R_cell 0 hS (j : Int) (by omega) (by omega)
      rw [Int.toNat_natCast] at this
      rw [Nat.zero_add]; exact this
    have hH : Go.Sort.Holds (Value.int .i64) w g 0 l0.toArray := fun j hj => by
      have hj' : j < l0.length := by simpa using hj
      have := hcell j hj'
      rw [show l0.toArray[j]! = l0.getD j 0 by rw [getElem!_pos l0.toArray j hj]; simp [List.getD, hj']]
      exact this
    refine (sh.slices_Sort_int g 0 cap l0 w hH hg2 (by omega)).mono fun e w' ⟨he, n, os, hw⟩ => ?_
    have hlen : (l0.mergeSort fun x y => decide (x ≤ y)).length = l0.length := List.length_mergeSort _
    have e1 := Go.Lib.putRow_eq_setCells (Value.int .i64) w g 0 l0.toArray (l0.mergeSort fun x y => decide (x ≤ y)) n hH (by simp [hlen])
    rw [e1] at hw
    obtain ⟨h1, h2, h3⟩ := lay_ints (q := n) (ys := l0.mergeSort fun x y => decide (x ≤ y)) (zs := []) ho0 (by simp [hlen]) (by rw [List.append_nil])
    have hgr : Below ((w.drewN n).setCells g 0 ((l0.mergeSort fun x y => decide (x ≤ y)).map (Value.int .i64))).heap.size ((w.drewN n).setCells g 0 ((l0.mergeSort fun x y => decide (x ≤ y)).map (Value.int .i64))) w' := by
      subst hw
      exact ⟨rfl, rfl, rfl, by simp [Go.Sort.grow], fun k hk => by simp [Go.Sort.grow, Array.getElem?_append, hk]⟩
    rw [hlen] at h1
    exact ⟨he, Kd.R_mono (Kd.R_below h1 hgr) (fun k hk => .inl hk), below_step (hB.trans (h2 _ hg1)) hgr, (Kept.then_ (Kept.mono h3 (fun k hk => by subst hk; exact ho0.1 _ rfl)) (S2 := fun _ => False) ⟨hgr.size, fun k hk _ => hgr.block k hk⟩ (fun _ hk => hk.elim))⟩

/-! ### slices_Compact_int_int: function 19 -/
def sh.laysNm220_ren : Go.Shelf.Ren := ⟨fun | 20 => 19 | n => n, fun | 22 => 24 | 3 => 3 | 4 => 4 | 0 => 0 | n => n, fun | n => n⟩
theorem sh.laysNm220 : Go.Proofs.Lays2.n20 Try.prog sh.laysNm220_ren := {
  mixed := by kernel_rfl
  f20 := Try.func19.trans (congrArg some (by kernel_rfl))
  t0 := Try.underlying0
  a0 := Try.isAgg0
  z0 := Try.sizeOf0
  v0 := Try.zeroValue0
  t3 := Try.underlying3
  a3 := Try.isAgg3
  z3 := Try.sizeOf3
  v3 := Try.zeroValue3
  t4 := Try.underlying4
  a4 := Try.isAgg4
  z4 := Try.sizeOf4
  v4 := Try.zeroValue4
  t22 := Try.underlying24
  a22 := Try.isAgg24
  z22 := Try.sizeOf24
  v22 := Try.zeroValue24
  i3 := by kernel_rfl }
open Go.RowKit Go.Lib Go.Sort in
theorem sh.slices_Compact_int_cells (b off n c : Nat) (zs : List Int) (w : World) (hz : n ≤ zs.length) (hbig : n ≤ 9223372036854775807) (hcap : n ≤ c) (hc : ∀ j, j < zs.length → w.cell? ⟨b, off + j, none⟩ = some (.int .i64 (zs.getD j 0))) (hf : ∀ j, j < n → w.frozen? ⟨b, off + j, none⟩ = false) :
    Calls Try.prog 19 #[.slice (some ⟨b, off, none⟩) n c] w fun e w' => e = .returned (.slice (some ⟨b, off, none⟩) (Lib.compact (zs.take n)).length c) ∧ ∃ q, w' = (w.drewN q).setCells b off ((Lib.compact (zs.take n) ++ List.replicate (n - (Lib.compact (zs.take n)).length) 0).map (Value.int .i64)) := Any.slices_Compact_int_cells sh.laysNm220 b off n c zs w hz hbig hcap hc hf
def slices_Compact_int_int.f (l0 : List Int) : Option (List Int) := if 0 < l0.length then some (Go.Lib.compact l0) else none
theorem slices_Compact_int_int.calls (P0_ : Nat → Prop) (u9000_ : Value) (l0 : List Int) (r : List Int) (w0 w : World) (hB : Below w0.heap.size w0 w) (ho0 : Kd.R (Kd.int .i64) 3 w w0.heap.size P0_ u9000_ l0) (h : slices_Compact_int_int.f l0 = some r) :
    Calls Try.prog 19 #[u9000_] w fun e w' => ∃ v0_ : Value, e = .returned (v0_) ∧ Kd.R (Kd.int .i64) 3 w' w0.heap.size (fun k_ => (P0_ k_ ∨ w.heap.size ≤ k_)) v0_ r ∧ Below w0.heap.size w0 w' ∧ Kept w w' (fun k_ => P0_ k_) := by
  have hp : 0 < l0.length := by
    by_cases c : 0 < l0.length
    · exact c
    unfold slices_Compact_int_int.f at h; rw [if_neg c] at h; cases h
  unfold slices_Compact_int_int.f at h
  rw [if_pos hp] at h
  obtain rfl := Option.some.inj h
  obtain ⟨A, c, hu, hlc, hC⟩ := Kd.R_reads ho0
  obtain ⟨g, cap, hv, hg1, hg2, _⟩ := Kd.R_form ho0 hp
  rw [hv] at hu
  injection hu with hu1 _ hu3
  subst hu3
  subst hv
  have hS : (Kd.scalar (Value.int .i64) (fun _ => rfl)).R 3 w w0.heap.size P0_ (.slice (some ⟨g, 0, none⟩) l0.length cap) l0 := ho0
  have hcell : ∀ j, j < l0.length → w.cell? ⟨g, 0 + j, none⟩ = some (.int .i64 (l0.getD j 0)) ∧ w.frozen? ⟨g, 0 + j, none⟩ = false := fun j hj => by
    have := Kd.R_cell 0 hS (j : Int) (by omega) (by omega)
    rw [Int.toNat_natCast] at this
    rw [Nat.zero_add]; exact this
  refine (sh.slices_Compact_int_cells g 0 l0.length cap l0 w (Nat.le_refl _) hC.2.1 hlc (fun j hj => (hcell j hj).1) (fun j hj => (hcell j hj).2)).mono fun e w' ⟨he, q, hw⟩ => ?_
  rw [List.take_length] at he hw
  have hcl : (Go.Lib.compact l0).length ≤ l0.length := Go.Lib.compact_length_le l0
  obtain ⟨h1, h2, h3⟩ := lay_ints (q := q) ho0 (by rw [List.length_append, List.length_replicate]; omega) hw
  exact ⟨_, he, Kd.R_mono h1 (fun k hk => .inl hk), hB.trans (h2 _ hg1), Kept.mono h3 (fun k hk => by subst hk; exact ho0.1 _ rfl)⟩

end Go.Proofs.Ytmfhfnpinmlloaa.PFnGoes
