-- made by wip/tools/myprint.py out of the seat's translation
import Derived.Test.YtddncenhddiemaaPFnCountsAllx0
import Derived.Test.YtddncenhddiemaaPFnCountsAllx1
namespace Go.Proofs.Ytddncenhddiemaa.PFnCountsAll
open Go.RowKit Go.Proofs.YtddncenhddiemaaW.PrintWords Go.Proofs.YtddncenhddiemaaW.PrintLast Go.Proofs.YtddncenhddiemaaW.PrintMore
attribute [local go_sem] max2_int min2_int max_two min_two max_three min_three max_four min_four   -- for this text's walks alone
set_option linter.unusedVariables false
set_option linter.unusedSimpArgs false
theorem zR2 {p q : Prop} (x : q) (h : q → p := by intro h; (with_reducible repeat (first | apply Kd.R_alloc | apply Kd.R_drewN | apply Kd.R_drew)); exact h) : p := h x
theorem zK2 {p q : Prop} (x : q) (h : q → p := by intro h; (with_reducible repeat (first | refine blk_drewN ?_ _ | refine blk_drew ?_ | refine blk_alloc ?_ _)); exact h) : p := h x
theorem zJ2 {p q : Prop} (x : q) (h : q → p := by intro h; (with_reducible repeat (first | refine blk_drewN ?_ _ | refine blk_drew ?_ )); exact h) : p := h x
theorem zA2 {p : Prop} [Decidable p] (h : decide p = true := by first | (with_reducible assumption) | assumption) : p := of_decide_eq_true h
theorem zT2 {p : Prop} (h : p := by (try simp only [List.map_toArray, List.map_cons, List.map_nil]); first | done | rfl | (simp only [List.length_drop, List.length_take]; rfl)) : p := h
theorem zE2 {p : Prop} (h : p := by first | rfl | (simp [errW_none, errW_some] <;> rfl) | (simp [*, errW_none, errW_some] <;> rfl)) : p := h
theorem zB2_0 {p : Prop} (h : p := by repeat (first | (with_reducible first | exact HB1.out | apply pw_below_drewN | apply below_drew1) | exact HB1.out)) : p := h
theorem zB2_1 {p : Prop} (h : p := by repeat (first | (with_reducible first | exact HB.out | apply below_alloc | apply pw_below_drewN | apply below_drew1) | exact HB.out)) : p := h
theorem zB2_2 {p : Prop} (h : p := by repeat (first | (with_reducible first | exact HB.out | apply below_alloc | apply pw_below_drewN | apply below_drew1 | refine below_set ?_ GE102.out) | exact HB.out)) : p := h
theorem zB2_3 {p : Prop} (h : p := by repeat (first | (with_reducible first | exact HB.out | apply below_alloc | apply pw_below_drewN | apply below_drew1 | refine below_set ?_ GE113.out) | exact HB.out)) : p := h

attribute [local go_sem high] eqA54
/-! ### laws_big: function 14 -/
def laws_big.f (l0 : List Int) : Option (Bool) := some (decide ((l0.length : Int) > 1048576))
set_option maxHeartbeats 8000000 in
set_option maxRecDepth 100000 in
theorem laws_big.calls (A0 : Option Addr) (c0 : Nat) (l0 : List Int) (r : Bool) (w : World) (hr0 : Kd.C (Kd.int .u8) w A0 l0.length l0) (hc0 : l0.length ≤ c0) (h : laws_big.f l0 = some r) :
    Calls Try.prog 14 #[.slice A0 l0.length c0] w fun e w' => e = .returned (.bool r) ∧ Drawn0 w w' := by
  have HR0 := Aside0.mk hr0
  have HC0 := Aside0.mk hc0
  clear hr0 hc0
  have H : (some (decide ((l0.length : Int) > 1048576))) = some r := h
  clear h
  obtain rfl := Option.some.inj H
  go_enter Try.func14, Try.ntmps14
  go_wp2
  go_ret
  exact ⟨by first | rfl | (simp; done) | (simp [*]; done), by repeat (first | exact Drawn0.refl _ | apply Drawn0.step)⟩

/-! ### laws_at: function 15 -/
def laws_at.f (l0 : List Int) (a1 : Int) : Option (Int) := if a1 < (l0.length : Int) then (if 0 ≤ a1 then (some (wrap64 (rd l0 a1))) else (none)) else (some (Int.tmod (wrap64 ((wrap64 (a1 * 7)) + (l0.length : Int))) 256))
set_option maxHeartbeats 8000000 in
set_option maxRecDepth 100000 in
theorem laws_at.calls (A0 : Option Addr) (c0 : Nat) (l0 : List Int) (a1 : Int) (r : Int) (w : World) (hr0 : Kd.C (Kd.int .u8) w A0 l0.length l0) (hc0 : l0.length ≤ c0) (h : laws_at.f l0 a1 = some r) :
    Calls Try.prog 15 #[.slice A0 l0.length c0, .int .i64 a1] w fun e w' => e = .returned (.int .i64 r) ∧ Drawn0 w w' := by
  have HR0 := Aside0.mk hr0
  have HC0 := Aside0.mk hc0
  clear hr0 hc0
  have H : (if a1 < (l0.length : Int) then (if 0 ≤ a1 then (some (wrap64 (rd l0 a1))) else (none)) else (some (Int.tmod (wrap64 ((wrap64 (a1 * 7)) + (l0.length : Int))) 256))) = some r := h
  clear h
  by_cases c3 : a1 < (l0.length : Int)
  rotate_left
  · rw [if_neg c3] at H
    have c3b0 : decide (a1 < (l0.length : Int)) = false := decide_eq_false c3
    clear c3
    obtain rfl := Option.some.inj H
    go_enter Try.func15, Try.ntmps15
    go_wp2
    go_ret
    exact ⟨by first | rfl | (simp; done) | (simp [*]; done), by repeat (first | exact Drawn0.refl _ | apply Drawn0.step)⟩
  rw [if_pos c3] at H
  have c3b0 : decide (a1 < (l0.length : Int)) = true := decide_eq_true c3
  clear c3
  by_cases c4 : 0 ≤ a1
  rotate_left
  · rw [if_neg c4] at H
    exact absurd H (by simp)
  rw [if_pos c4] at H
  have c4b0 : decide (0 ≤ a1) = true := decide_eq_true c4
  clear c4
  obtain rfl := Option.some.inj H
  have p101 : 0 ≤ (a1 : Int) := zA2
  have q101 : a1 < (l0.length : Int) := zA2
  obtain ⟨ad101, e101, hx101_0⟩ := Kd.at_int HR0.out a1 p101 q101
  cases e101
  replace p101 := eq_true p101
  replace q101 := eq_true q101
  go_enter Try.func15, Try.ntmps15
  go_wp2
  go_ret
  exact ⟨by first | rfl | (simp; done) | (simp [*]; done), by repeat (first | exact Drawn0.refl _ | apply Drawn0.step)⟩

/-! ### impl_from: function 87 -/
def impl_from.f (a0 : Int) (a1 : Int) (a2 : Int) : Option (Bool) := if a0 ≥ a1 then (some (decide (a0 ≤ a2))) else (some false)
set_option maxHeartbeats 8000000 in
set_option maxRecDepth 100000 in
theorem impl_from.calls (a0 : Int) (a1 : Int) (a2 : Int) (r : Bool) (w : World) (h : impl_from.f a0 a1 a2 = some r) :
    Calls Try.prog 87 #[.int .i64 a0, .int .i64 a1, .int .i64 a2] w fun e w' => e = .returned (.bool r) ∧ Drawn0 w w' := by
  have H : (if a0 ≥ a1 then (some (decide (a0 ≤ a2))) else (some false)) = some r := h
  clear h
  by_cases c4 : a0 ≥ a1
  · rw [if_pos c4] at H
    have c4b0 : decide (a1 ≤ a0) = true := decide_eq_true c4
    clear c4
    obtain rfl := Option.some.inj H
    go_enter Try.func87, Try.ntmps87
    go_wp2
    go_ret
    exact ⟨by first | rfl | (simp; done) | (simp [*]; done), by repeat (first | exact Drawn0.refl _ | apply Drawn0.step)⟩
  rw [if_neg c4] at H
  have c4b0 : decide (a1 ≤ a0) = false := decide_eq_false c4
  clear c4
  obtain rfl := Option.some.inj H
  go_enter Try.func87, Try.ntmps87
  go_wp2
  go_ret
  exact ⟨by first | rfl | (simp; done) | (simp [*]; done), by repeat (first | exact Drawn0.refl _ | apply Drawn0.step)⟩

/-! ### impl_form: function 163 -/
mutual
def impl_form.j0 : Nat → Int → Bool → Option (ByteArray × Bool)
  | 0, _, _ => none
  | k + 1, x4, x7 => if x7 = true then (some ((⟨#[82, 65, 66]⟩ : ByteArray), true)) else (if x4 = 3 then (impl_form.j1 k x4 (x4 == 3)) else (impl_form.j1 k x4 (x4 == 4)))
def impl_form.j1 : Nat → Int → Bool → Option (ByteArray × Bool)
  | 0, _, _ => none
  | k + 1, x4, x10 => if x10 = true then (some ((⟨#[82, 65, 78]⟩ : ByteArray), true)) else (if x4 = 5 then (some ((⟨#[65, 66, 78]⟩ : ByteArray), true)) else (if x4 = 6 then (some ((⟨#[82, 65, 66, 78]⟩ : ByteArray), true)) else (if x4 = 7 then (some ((⟨#[65, 78]⟩ : ByteArray), true)) else (if x4 = 8 then (some ((⟨#[78]⟩ : ByteArray), true)) else (if x4 = 9 then (some ((⟨#[]⟩ : ByteArray), true)) else (some ((⟨#[]⟩ : ByteArray), false)))))))
end
def impl_form.f (k : Nat) (a0 : Int) : Option (ByteArray × Bool) := if a0 = 1 then (some ((⟨#[82, 78]⟩ : ByteArray), true)) else (if a0 = 2 then (impl_form.j0 k a0 (a0 == 2)) else (impl_form.j0 k a0 (a0 == 10)))
theorem impl_form.mono_l : ∀ k, (∀ y0 y1, LeO (impl_form.j0 k y0 y1) (impl_form.j0 (k + 1) y0 y1)) ∧ (∀ y0 y1, LeO (impl_form.j1 k y0 y1) (impl_form.j1 (k + 1) y0 y1))
  | 0 => ⟨fun _ _ r h => by simp [impl_form.j0] at h, fun _ _ r h => by simp [impl_form.j1] at h⟩
  | k + 1 => by
    obtain ⟨ih0, ih1⟩ := impl_form.mono_l k
    refine ⟨?_, ?_⟩
    · intro y0 y1
      unfold impl_form.j0
      repeat' first
      | (with_reducible exact ih0 _ _)
      | (with_reducible exact ih1 _ _)
      | (with_reducible exact LeO.refl _)
      | (with_reducible exact LeO.none _)
      | (with_reducible refine LeO.ite ?_ ?_)
      | (with_reducible refine LeO.bind ?_ (fun _ => ?_))
      | exact ih0 _ _
      | exact ih1 _ _
      | exact LeO.none _
      | refine LeO.ite ?_ ?_
      | refine LeO.bind ?_ (fun _ => ?_)
    · intro y0 y1
      unfold impl_form.j1
      repeat' first
      | (with_reducible exact ih0 _ _)
      | (with_reducible exact ih1 _ _)
      | (with_reducible exact LeO.refl _)
      | (with_reducible exact LeO.none _)
      | (with_reducible refine LeO.ite ?_ ?_)
      | (with_reducible refine LeO.bind ?_ (fun _ => ?_))
      | exact ih0 _ _
      | exact ih1 _ _
      | exact LeO.none _
      | refine LeO.ite ?_ ?_
      | refine LeO.bind ?_ (fun _ => ?_)
theorem impl_form.mono : ∀ a0 k, LeO (impl_form.f k a0) (impl_form.f (k + 1) a0) := by
  intro a0 k
  obtain ⟨ih0, ih1⟩ := impl_form.mono_l k
  unfold impl_form.f
  repeat' first
      | (with_reducible exact ih0 _ _)
      | (with_reducible exact ih1 _ _)
      | (with_reducible exact LeO.refl _)
      | (with_reducible exact LeO.none _)
      | (with_reducible refine LeO.ite ?_ ?_)
      | (with_reducible refine LeO.bind ?_ (fun _ => ?_))
      | exact ih0 _ _
      | exact ih1 _ _
      | exact LeO.none _
      | refine LeO.ite ?_ ?_
      | refine LeO.bind ?_ (fun _ => ?_)
set_option maxHeartbeats 8000000 in
set_option maxRecDepth 100000 in
theorem impl_form.calls (k : Nat) (a0 : Int) (r1 : ByteArray) (r2 : Bool) (w : World) (h : impl_form.f k a0 = some (r1, r2)) :
    Calls Try.prog 163 #[.int .i64 a0] w fun e w' => e = .returned (.tuple #[.string r1, .bool r2]) ∧ Drawn0 w w' := by
  have H : (if a0 = 1 then (some ((⟨#[82, 78]⟩ : ByteArray), true)) else (if a0 = 2 then (impl_form.j0 k a0 (a0 == 2)) else (impl_form.j0 k a0 (a0 == 10)))) = some (r1, r2) := h
  clear h
  by_cases c2 : a0 = 1
  · rw [if_pos c2] at H
    have c2b0 : (a0 == 1) = true := beq_iff_eq.mpr c2
    have c2b1 : (a0 != 1) = false := bne_eq_false_iff_eq.mpr c2
    clear c2
    simp only [Option.some.injEq, Prod.mk.injEq] at H
    obtain ⟨rfl, rfl⟩ := H
    go_enter Try.func163, Try.ntmps163
    go_wp2
    go_ret2
    exact ⟨by first | rfl | (simp; done) | (simp [*]; done), by repeat (first | exact Drawn0.refl _ | apply Drawn0.step)⟩
  rw [if_neg c2] at H
  have c2b0 : (a0 == 1) = false := beq_eq_false_iff_ne.mpr c2
  have c2b1 : (a0 != 1) = true := bne_iff_ne.mpr c2
  have HC3 := Aside0.mk H
  clear H
  go_enter Try.func163, Try.ntmps163
  go_upto_if 7 with (fail)
  go_cut [7] (fun v7 wc => ∃ (kq : Nat) (x7_2 : Bool), v7 = .bool x7_2 ∧ Aside0 (impl_form.j0 kq a0 x7_2 = some (r1, r2)) ∧ Aside0 (kq ≤ k) ∧ Drawn0 w wc)
  case first =>
    have H := HC3.out
    clear HC3
    by_cases c4 : a0 = 2
    rotate_left
    · rw [if_neg c4] at H
      have c4b0 : (a0 == 2) = false := beq_eq_false_iff_ne.mpr c4
      have c4b1 : (a0 != 2) = true := bne_iff_ne.mpr c4
      (first | rw [c4b0] | (simp only [i64_w, i32_w]; rw [c4b0]) | skip)
      have H' := Aside0.mk H
      clear H
      go_wp2
      go_meet
      case rel => exact ⟨_, ((a0 == 10)), (by first | rfl | (simp; done) | (simp [*]; done)), H', ⟨by first | omega | exact Nat.le_refl _⟩, by repeat (first | exact Drawn0.refl _ | apply Drawn0.step)⟩
    rw [if_pos c4] at H
    have c4b0 : (a0 == 2) = true := beq_iff_eq.mpr c4
    have c4b1 : (a0 != 2) = false := bne_eq_false_iff_eq.mpr c4
    clear c4
    (first | rw [c4b0] | (simp only [i64_w, i32_w]; rw [c4b0]) | skip)
    have H' := Aside0.mk H
    clear H
    go_wp2
    go_meet
    case rel => exact ⟨_, ((a0 == 2)), (by first | rfl | (simp; done) | (simp [*]; done)), H', ⟨by first | omega | exact Nat.le_refl _⟩, by repeat (first | exact Drawn0.refl _ | apply Drawn0.step)⟩
  case rest =>
    clear HC3
    try clear c1
    try clear c2
    try clear c2b0
    try clear c2b1
    try clear p2
    try clear c4
    try clear c4b0
    try clear c4b1
    obtain ⟨kq, x7_2, rfl, HA, HJ2, ⟨mc2, rfl⟩⟩ := hcut
    cases kq with
    | zero => exact absurd HA.out (by simp [impl_form.j0])
    | succ kj2 =>
      have H := HA.out
      clear HA
      simp only [impl_form.j0] at H
      by_cases c5 : x7_2 = true
      · subst c5
        have H1 : (some ((⟨#[82, 65, 66]⟩ : ByteArray), true)) = some (r1, r2) := by rw [if_pos rfl] at H; exact H
        clear H
        have H := H1
        clear H1
        simp only [Option.some.injEq, Prod.mk.injEq] at H
        obtain ⟨rfl, rfl⟩ := H
        go_wp2
        go_ret2
        exact ⟨by first | rfl | (simp; done) | (simp [*]; done), by repeat (first | exact Drawn0.refl _ | apply Drawn0.step)⟩
      replace c5 := Bool.eq_false_iff.mpr c5
      subst c5
      have H1 : (if a0 = 3 then (impl_form.j1 kj2 a0 (a0 == 3)) else (impl_form.j1 kj2 a0 (a0 == 4))) = some (r1, r2) := by rw [if_neg (show ¬ (false = true) by decide)] at H; exact H
      clear H
      have H := H1
      clear H1
      have HC6 := Aside0.mk H
      clear H
      go_upto_if 10 with (fail)
      go_cut [10] (fun v10 wc => ∃ (kq : Nat) (x10_5 : Bool), v10 = .bool x10_5 ∧ Aside0 (impl_form.j1 kq a0 x10_5 = some (r1, r2)) ∧ Aside0 (kq ≤ kj2) ∧ Drawn0 w wc)
      case first =>
        have H := HC6.out
        clear HC6
        by_cases c7 : a0 = 3
        rotate_left
        · rw [if_neg c7] at H
          have c7b0 : (a0 == 3) = false := beq_eq_false_iff_ne.mpr c7
          have c7b1 : (a0 != 3) = true := bne_iff_ne.mpr c7
          (first | rw [c7b0] | (simp only [i64_w, i32_w]; rw [c7b0]) | skip)
          have H' := Aside0.mk H
          clear H
          go_wp2
          go_meet
          case rel => exact ⟨_, ((a0 == 4)), (by first | rfl | (simp; done) | (simp [*]; done)), H', ⟨by have := HJ2.out; first | omega | exact Nat.le_refl _⟩, by repeat (first | exact Drawn0.refl _ | apply Drawn0.step)⟩
        rw [if_pos c7] at H
        have c7b0 : (a0 == 3) = true := beq_iff_eq.mpr c7
        have c7b1 : (a0 != 3) = false := bne_eq_false_iff_eq.mpr c7
        clear c7
        (first | rw [c7b0] | (simp only [i64_w, i32_w]; rw [c7b0]) | skip)
        have H' := Aside0.mk H
        clear H
        go_wp2
        go_meet
        case rel => exact ⟨_, ((a0 == 3)), (by first | rfl | (simp; done) | (simp [*]; done)), H', ⟨by have := HJ2.out; first | omega | exact Nat.le_refl _⟩, by repeat (first | exact Drawn0.refl _ | apply Drawn0.step)⟩
      case rest =>
        clear HC6
        try clear c1
        try clear c2
        try clear c2b0
        try clear c2b1
        try clear p2
        try clear c4
        try clear c4b0
        try clear c4b1
        try clear c5
        try clear c7
        try clear c7b0
        try clear c7b1
        try clear p2
        obtain ⟨kq, x10_5, rfl, HA, HJ5, ⟨mc5, rfl⟩⟩ := hcut
        cases kq with
        | zero => exact absurd HA.out (by simp [impl_form.j1])
        | succ kj5 =>
          have H := HA.out
          clear HA
          simp only [impl_form.j1] at H
          by_cases c8 : x10_5 = true
          · subst c8
            have H1 : (some ((⟨#[82, 65, 78]⟩ : ByteArray), true)) = some (r1, r2) := by rw [if_pos rfl] at H; exact H
            clear H
            have H := H1
            clear H1
            simp only [Option.some.injEq, Prod.mk.injEq] at H
            obtain ⟨rfl, rfl⟩ := H
            go_wp2
            go_ret2
            exact ⟨by first | rfl | (simp; done) | (simp [*]; done), by repeat (first | exact Drawn0.refl _ | apply Drawn0.step)⟩
          replace c8 := Bool.eq_false_iff.mpr c8
          subst c8
          have H1 : (if a0 = 5 then (some ((⟨#[65, 66, 78]⟩ : ByteArray), true)) else (if a0 = 6 then (some ((⟨#[82, 65, 66, 78]⟩ : ByteArray), true)) else (if a0 = 7 then (some ((⟨#[65, 78]⟩ : ByteArray), true)) else (if a0 = 8 then (some ((⟨#[78]⟩ : ByteArray), true)) else (if a0 = 9 then (some ((⟨#[]⟩ : ByteArray), true)) else (some ((⟨#[]⟩ : ByteArray), false))))))) = some (r1, r2) := by rw [if_neg (show ¬ (false = true) by decide)] at H; exact H
          clear H
          have H := H1
          clear H1
          by_cases c9 : a0 = 5
          · rw [if_pos c9] at H
            have c9b0 : (a0 == 5) = true := beq_iff_eq.mpr c9
            have c9b1 : (a0 != 5) = false := bne_eq_false_iff_eq.mpr c9
            clear c9
            simp only [Option.some.injEq, Prod.mk.injEq] at H
            obtain ⟨rfl, rfl⟩ := H
            go_wp2
            go_ret2
            exact ⟨by first | rfl | (simp; done) | (simp [*]; done), by repeat (first | exact Drawn0.refl _ | apply Drawn0.step)⟩
          rw [if_neg c9] at H
          have c9b0 : (a0 == 5) = false := beq_eq_false_iff_ne.mpr c9
          have c9b1 : (a0 != 5) = true := bne_iff_ne.mpr c9
          by_cases c10 : a0 = 6
          · rw [if_pos c10] at H
            have c10b0 : (a0 == 6) = true := beq_iff_eq.mpr c10
            have c10b1 : (a0 != 6) = false := bne_eq_false_iff_eq.mpr c10
            clear c10
            simp only [Option.some.injEq, Prod.mk.injEq] at H
            obtain ⟨rfl, rfl⟩ := H
            go_wp2
            go_ret2
            exact ⟨by first | rfl | (simp; done) | (simp [*]; done), by repeat (first | exact Drawn0.refl _ | apply Drawn0.step)⟩
          rw [if_neg c10] at H
          have c10b0 : (a0 == 6) = false := beq_eq_false_iff_ne.mpr c10
          have c10b1 : (a0 != 6) = true := bne_iff_ne.mpr c10
          by_cases c11 : a0 = 7
          · rw [if_pos c11] at H
            have c11b0 : (a0 == 7) = true := beq_iff_eq.mpr c11
            have c11b1 : (a0 != 7) = false := bne_eq_false_iff_eq.mpr c11
            clear c11
            simp only [Option.some.injEq, Prod.mk.injEq] at H
            obtain ⟨rfl, rfl⟩ := H
            go_wp2
            go_ret2
            exact ⟨by first | rfl | (simp; done) | (simp [*]; done), by repeat (first | exact Drawn0.refl _ | apply Drawn0.step)⟩
          rw [if_neg c11] at H
          have c11b0 : (a0 == 7) = false := beq_eq_false_iff_ne.mpr c11
          have c11b1 : (a0 != 7) = true := bne_iff_ne.mpr c11
          by_cases c12 : a0 = 8
          · rw [if_pos c12] at H
            have c12b0 : (a0 == 8) = true := beq_iff_eq.mpr c12
            have c12b1 : (a0 != 8) = false := bne_eq_false_iff_eq.mpr c12
            clear c12
            simp only [Option.some.injEq, Prod.mk.injEq] at H
            obtain ⟨rfl, rfl⟩ := H
            go_wp2
            go_ret2
            exact ⟨by first | rfl | (simp; done) | (simp [*]; done), by repeat (first | exact Drawn0.refl _ | apply Drawn0.step)⟩
          rw [if_neg c12] at H
          have c12b0 : (a0 == 8) = false := beq_eq_false_iff_ne.mpr c12
          have c12b1 : (a0 != 8) = true := bne_iff_ne.mpr c12
          by_cases c13 : a0 = 9
          rotate_left
          · rw [if_neg c13] at H
            have c13b0 : (a0 == 9) = false := beq_eq_false_iff_ne.mpr c13
            have c13b1 : (a0 != 9) = true := bne_iff_ne.mpr c13
            simp only [Option.some.injEq, Prod.mk.injEq] at H
            obtain ⟨rfl, rfl⟩ := H
            go_wp2
            go_ret2
            exact ⟨by first | rfl | (simp; done) | (simp [*]; done), by repeat (first | exact Drawn0.refl _ | apply Drawn0.step)⟩
          rw [if_pos c13] at H
          have c13b0 : (a0 == 9) = true := beq_iff_eq.mpr c13
          have c13b1 : (a0 != 9) = false := bne_eq_false_iff_eq.mpr c13
          clear c13
          simp only [Option.some.injEq, Prod.mk.injEq] at H
          obtain ⟨rfl, rfl⟩ := H
          go_wp2
          go_ret2
          exact ⟨by first | rfl | (simp; done) | (simp [*]; done), by repeat (first | exact Drawn0.refl _ | apply Drawn0.step)⟩

-- NOT PRINTED: function 164 (impl_Ins_place)

/-! ### impl_InsOk: function 107 -/
def placeOff (c : Int) : Nat := if c = 82 then 1 else if c = 65 then 2 else if c = 66 then 3 else 4
set_option maxHeartbeats 400000 in
set_option maxRecDepth 100000 in
theorem place_calls (g : Nat) (c : Int) (w : World) :
    Calls Try.prog 164 #[.pointer (some ⟨g, 0, none⟩), .int .u8 c] w fun e w' => e = .returned (.pointer (some ⟨g, placeOff c, none⟩)) ∧ w' = w := by
  by_cases c1 : c = 82
  · have e1 : (c == 82) = true := beq_iff_eq.mpr c1
    have ho : placeOff c = 1 := by simp [placeOff, c1]
    have Ho := Aside0.mk ho
    clear c1 ho
    go_enter Try.func164, Try.ntmps164
    go_wp2
    go_ret
    exact ⟨congrArg (fun o => Ending.returned (Value.pointer (some ⟨g, o, none⟩))) Ho.out.symm, rfl⟩
  have e1 : (c == 82) = false := beq_eq_false_iff_ne.mpr c1
  by_cases c2 : c = 65
  · have e2 : (c == 65) = true := beq_iff_eq.mpr c2
    have ho : placeOff c = 2 := by simp [placeOff, c2]
    have Ho := Aside0.mk ho
    clear c1 c2 ho
    go_enter Try.func164, Try.ntmps164
    go_wp2
    go_ret
    exact ⟨congrArg (fun o => Ending.returned (Value.pointer (some ⟨g, o, none⟩))) Ho.out.symm, rfl⟩
  have e2 : (c == 65) = false := beq_eq_false_iff_ne.mpr c2
  by_cases c3 : c = 66
  · have e3 : (c == 66) = true := beq_iff_eq.mpr c3
    have ho : placeOff c = 3 := by simp [placeOff, c3]
    have Ho := Aside0.mk ho
    clear c1 c2 c3 ho
    go_enter Try.func164, Try.ntmps164
    go_wp2
    go_ret
    exact ⟨congrArg (fun o => Ending.returned (Value.pointer (some ⟨g, o, none⟩))) Ho.out.symm, rfl⟩
  have e3 : (c == 66) = false := beq_eq_false_iff_ne.mpr c3
  have ho : placeOff c = 4 := by simp [placeOff, c1, c2, c3]
  have Ho := Aside0.mk ho
  clear c1 c2 c3 ho
  go_enter Try.func164, Try.ntmps164
  go_wp2
  go_ret
  exact ⟨congrArg (fun o => Ending.returned (Value.pointer (some ⟨g, o, none⟩))) Ho.out.symm, rfl⟩

/-- The five numbers, one of them put. -/
def insPut (c : Int) (x s : Int × Int × Int × Int × Int) : Int × Int × Int × Int × Int :=
  if c = 82 then (s.1, x.2.1, s.2.2.1, s.2.2.2.1, s.2.2.2.2) else if c = 65 then (s.1, s.2.1, x.2.2.1, s.2.2.2.1, s.2.2.2.2) else if c = 66 then (s.1, s.2.1, s.2.2.1, x.2.2.2.1, s.2.2.2.2) else (s.1, s.2.1, s.2.2.1, s.2.2.2.1, x.2.2.2.2)
def insCells (s : Int × Int × Int × Int × Int) : Array Value := #[.int .i64 s.1, .int .i64 s.2.1, .int .i64 s.2.2.1, .int .i64 s.2.2.2.1, .int .i64 s.2.2.2.2]
def insPick (x : Int × Int × Int × Int × Int) (c : Int) : Int := if c = 82 then x.2.1 else if c = 65 then x.2.2.1 else if c = 66 then x.2.2.2.1 else x.2.2.2.2
theorem insCells_get (x : Int × Int × Int × Int × Int) (c : Int) : (insCells x)[placeOff c]? = some (.int .i64 (insPick x c)) := by
  unfold insCells placeOff insPick; split <;> (try split) <;> (try split) <;> rfl
theorem insCells_put (x s : Int × Int × Int × Int × Int) (c : Int) : (insCells s).setIfInBounds (placeOff c) (.int .i64 (insPick x c)) = insCells (insPut c x s) := by
  unfold insCells placeOff insPick insPut; split <;> (try split) <;> (try split) <;> rfl
def insFold (s : ByteArray) (x : Int × Int × Int × Int × Int) (n : Nat) : Int × Int × Int × Int × Int := (List.range n).foldl (fun a (i : Nat) => insPut (bt s (i : Int)) x a) (x.1, 0, 0, 0, 0)

theorem insFold_succ (s : ByteArray) (x : Int × Int × Int × Int × Int) (n : Nat) : insFold s x (n + 1) = insPut (bt s (n : Int)) x (insFold s x n) := by
  unfold insFold; rw [List.range_succ, List.foldl_append]; rfl
set_option maxHeartbeats 4000000 in
set_option maxRecDepth 100000 in
theorem insOk_calls (k : Nat) (x0 x1 x2 x3 x4 : Int) (s : ByteArray) (ok : Bool) (w : World) (hs : s.size ≤ 4) (hf : impl_form.f k x0 = some (s, ok)) (y0 y1 y2 y3 y4 : Int) (hy : insFold s (x0, x1, x2, x3, x4) s.size = (y0, y1, y2, y3, y4)) (b1 b2 b3 b4 : Bool) (h1 : impl_from.f x1 0 3 = some b1) (h2 : impl_from.f x2 0 3 = some b2) (h3 : impl_from.f x3 0 3 = some b3) (h4 : impl_from.f x4 0 63 = some b4) :
    Calls Try.prog 107 #[.agg #[.int .i64 x0, .int .i64 x1, .int .i64 x2, .int .i64 x3, .int .i64 x4]] w fun e w' => e = .returned (.bool (ok && ((y0 == x0 && (y1 == x1 && (y2 == x2 && (y3 == x3 && (y4 == x4))))) && (b1 && (b2 && (b3 && b4)))))) ∧ Below w.heap.size w w' := by
  have hu54 := Try.underlying53
  have HF := Aside0.mk hf
  have HY := Aside0.mk hy
  have F1 := Aside0.mk h1
  have F2 := Aside0.mk h2
  have F3 := Aside0.mk h3
  have F4 := Aside0.mk h4
  clear hf hy h1 h2 h3 h4
  have HB := Aside0.mk (Below.refl w.heap.size w)
  go_enter Try.func107, Try.ntmps107
  go_wp2_with (first
    | ((with_reducible refine gate_dst (N := 1) rfl ?_); refine box_event ?hg (N := 1) ?hd (cs := #[.int .i64 x0, .int .i64 x1, .int .i64 x2, .int .i64 x3, .int .i64 x4]) (t := 54) ?hr ?_; (case hd => rfl); (case hg => rfl); (case hr => first | (go_simp; done) | (go_simp; rfl)); intro g1 hg w1 hbox hb; have BK1 := Aside0.mk hbox; have HB1 := Aside0.mk (below_step HB.out hb); have GE1 := Aside0.mk (by rw [hg]; exact Nat.le_refl _ : w.heap.size ≤ g1); clear hb hbox hg; have hcz0 : w1.cell? ⟨g1, 0, none⟩ = some (.int .i64 x0) := (blk_cell BK1.out 0).trans rfl)
    | ((with_reducible refine gate_dst (N := 5) rfl ?_); refine box_event ?hg (N := 5) ?hd (cs := #[.int .i64 0, .int .i64 0, .int .i64 0, .int .i64 0, .int .i64 0]) (t := 54) ?hr ?_; (case hd => rfl); (case hg => rfl); (case hr => first | (go_simp; done) | (go_simp; rfl)); intro g2 hg w2 hbox hb; have hne := Aside0.mk (by rw [hg]; exact Nat.ne_of_lt (blk_lt (blk_drewN BK1.out _)) : g1 ≠ g2); have BK2 := Aside0.mk hbox; have HB2 := Aside0.mk (below_step (zB2_0) hb); have BK1' := Aside0.mk (blk_below (zJ2 BK1.out) hb); have GE2 := Aside0.mk (by rw [hg]; exact below_size (zB2_0) : w.heap.size ≤ g2); clear hb hbox hg BK1 HB1 HB; have hcy0 := (blk_cell BK2.out 0).trans rfl; have hcy1 := (blk_cell BK2.out 1).trans rfl; have hcy2 := (blk_cell BK2.out 2).trans rfl; have hcy3 := (blk_cell BK2.out 3).trans rfl; have hcy4 := (blk_cell BK2.out 4).trans rfl; have hfy0 := blk_frozen BK2.out 0; have hfy1 := blk_frozen BK2.out 1; have hfy2 := blk_frozen BK2.out 2; have hfy3 := blk_frozen BK2.out 3; have hfy4 := blk_frozen BK2.out 4)
    | (go_at_call 163; refine (impl_form.calls k x0 s ok _ HF.out).mono ?_; rintro e w' ⟨rfl, ⟨nd, rfl⟩⟩))
  clear hcz0 hcy0 hcy1 hcy2 hcy3 hcy4 hfy0 hfy1 hfy2 hfy3 hfy4
  go_loopw [18] (fun v wr => ∃ i : Nat, Aside0 (i ≤ s.size) ∧ v = .int .i64 i ∧ Aside0 (wr.heap[g1]? = some (.cells (insCells (x0, x1, x2, x3, x4)) 54 (0, 0))) ∧ Aside0 (wr.heap[g2]? = some (.cells (insCells (insFold s (x0, x1, x2, x3, x4) i)) 54 (0, 0))) ∧ Aside0 (Below w.heap.size w wr)) (fun v _ => s.size - (intOf v).toNat)
  case atStart =>
    refine ⟨0, ⟨Nat.zero_le _⟩, rfl, ⟨?_⟩, ⟨?_⟩, ⟨?_⟩⟩
    · refine blk_far (blk_far (blk_far (blk_far (blk_far BK1'.out ?_ _) ?_ _) ?_ _) ?_ _) ?_ _ <;> exact hne.out
    · exact blk_set (blk_set (blk_set (blk_set (blk_set BK2.out 0 _) 1 _) 2 _) 3 _) 4 _
    · exact below_set (below_set (below_set (below_set (below_set HB2.out GE2.out) GE2.out) GE2.out) GE2.out) GE2.out
  case round =>
    obtain ⟨i, hi, rfl, BK1, BK2, HB⟩ := hrel
    by_cases hlt : i < s.size
    · have hbt : bt s (i : Int) = ((s[i].toNat : Nat) : Int) := (bt_at s (i : Int) (by simpa using hlt)).symm
      have HBT := Aside0.mk hbt
      clear hbt
      have hld : wr.cell? ⟨g1, placeOff ((s[i].toNat : Nat) : Int), none⟩ = some (.int .i64 (insPick (x0, x1, x2, x3, x4) ((s[i].toNat : Nat) : Int))) := (blk_cell BK1.out _).trans (insCells_get _ _)
      have hst : wr.cell? ⟨g2, placeOff ((s[i].toNat : Nat) : Int), none⟩ = some (.int .i64 (insPick (insFold s (x0, x1, x2, x3, x4) i) ((s[i].toNat : Nat) : Int))) := (blk_cell BK2.out _).trans (insCells_get _ _)
      have hfz := blk_frozen BK2.out (placeOff ((s[i].toNat : Nat) : Int))
      have H1 := Aside0.mk hst
      have H2 := Aside0.mk hfz
      clear hst hfz
      go_wp2_with fail
      go_still_tail 11, (by kernel_rfl)
      still_call (place_calls _ _ _)
      repeat still_step
      still_call (place_calls _ _ _)
      repeat still_step
      refine wpStill_nil ?_
      change wpList _ _ _ _ _ wr.drew
      have hst := H1.out
      have hfz := H2.out
      go_wp2
      go_roundw
      case rel =>
        refine ⟨i + 1, ⟨hlt⟩, by go_num, ⟨?_⟩, ⟨?_⟩, ⟨?_⟩⟩
        · exact blk_far (blk_drew BK1.out) hne.out _
        · rw [insFold_succ, HBT.out, ← insCells_put]; exact blk_set (blk_drew BK2.out) _ _
        · exact below_set (below_drew1 HB.out) GE2.out
      case measure => simp [intOf]; omega
    have HN := Aside0.mk hlt
    have hi' : i = s.size := by have := hi.out; omega
    subst hi'
    have BK2' : wr.heap[g2]? = some (.cells #[.int .i64 y0, .int .i64 y1, .int .i64 y2, .int .i64 y3, .int .i64 y4] 54 (0, 0)) := by have h_ := BK2.out; rw [HY.out] at h_; exact h_
    clear BK2
    have hcx0 : wr.cell? ⟨g1, 0, none⟩ = some (.int .i64 x0) := (blk_cell BK1.out 0).trans rfl
    have hcx1 : wr.cell? ⟨g1, 1, none⟩ = some (.int .i64 x1) := (blk_cell BK1.out 1).trans rfl
    have hcx2 : wr.cell? ⟨g1, 2, none⟩ = some (.int .i64 x2) := (blk_cell BK1.out 2).trans rfl
    have hcx3 : wr.cell? ⟨g1, 3, none⟩ = some (.int .i64 x3) := (blk_cell BK1.out 3).trans rfl
    have hcx4 : wr.cell? ⟨g1, 4, none⟩ = some (.int .i64 x4) := (blk_cell BK1.out 4).trans rfl
    have hcy0 : wr.cell? ⟨g2, 0, none⟩ = some (.int .i64 y0) := (blk_cell BK2' 0).trans rfl
    have hcy1 : wr.cell? ⟨g2, 1, none⟩ = some (.int .i64 y1) := (blk_cell BK2' 1).trans rfl
    have hcy2 : wr.cell? ⟨g2, 2, none⟩ = some (.int .i64 y2) := (blk_cell BK2' 2).trans rfl
    have hcy3 : wr.cell? ⟨g2, 3, none⟩ = some (.int .i64 y3) := (blk_cell BK2' 3).trans rfl
    have hcy4 : wr.cell? ⟨g2, 4, none⟩ = some (.int .i64 y4) := (blk_cell BK2' 4).trans rfl
    clear BK1 BK2'
    cases ok
    · go_wp2_with (first | (go_at_call 87; with_reducible refine (impl_from.calls x1 0 3 _ _ F1.out).mono ?_; rintro e w' ⟨rfl, ⟨nd, rfl⟩⟩) | (go_at_call 87; with_reducible refine (impl_from.calls x2 0 3 _ _ F2.out).mono ?_; rintro e w' ⟨rfl, ⟨nd, rfl⟩⟩) | (go_at_call 87; with_reducible refine (impl_from.calls x3 0 3 _ _ F3.out).mono ?_; rintro e w' ⟨rfl, ⟨nd, rfl⟩⟩) | (go_at_call 87; with_reducible refine (impl_from.calls x4 0 63 _ _ F4.out).mono ?_; rintro e w' ⟨rfl, ⟨nd, rfl⟩⟩))
      go_ret
      exact ⟨rfl, by repeat (first | exact HB.out | apply pw_below_drewN | apply below_drew1)⟩
    generalize hE : (y0 == x0 && (y1 == x1 && (y2 == x2 && (y3 == x3 && (y4 == x4))))) = E
    cases E
    · go_wp2_with (first | (go_at_call 87; with_reducible refine (impl_from.calls x1 0 3 _ _ F1.out).mono ?_; rintro e w' ⟨rfl, ⟨nd, rfl⟩⟩) | (go_at_call 87; with_reducible refine (impl_from.calls x2 0 3 _ _ F2.out).mono ?_; rintro e w' ⟨rfl, ⟨nd, rfl⟩⟩) | (go_at_call 87; with_reducible refine (impl_from.calls x3 0 3 _ _ F3.out).mono ?_; rintro e w' ⟨rfl, ⟨nd, rfl⟩⟩) | (go_at_call 87; with_reducible refine (impl_from.calls x4 0 63 _ _ F4.out).mono ?_; rintro e w' ⟨rfl, ⟨nd, rfl⟩⟩))
      go_ret
      exact ⟨by rw [hE]; rfl, by repeat (first | exact HB.out | apply pw_below_drewN | apply below_drew1)⟩
    cases b1
    · go_wp2_with (first | (go_at_call 87; with_reducible refine (impl_from.calls x1 0 3 _ _ F1.out).mono ?_; rintro e w' ⟨rfl, ⟨nd, rfl⟩⟩) | (go_at_call 87; with_reducible refine (impl_from.calls x2 0 3 _ _ F2.out).mono ?_; rintro e w' ⟨rfl, ⟨nd, rfl⟩⟩) | (go_at_call 87; with_reducible refine (impl_from.calls x3 0 3 _ _ F3.out).mono ?_; rintro e w' ⟨rfl, ⟨nd, rfl⟩⟩) | (go_at_call 87; with_reducible refine (impl_from.calls x4 0 63 _ _ F4.out).mono ?_; rintro e w' ⟨rfl, ⟨nd, rfl⟩⟩))
      go_ret
      exact ⟨by rw [hE]; rfl, by repeat (first | exact HB.out | apply pw_below_drewN | apply below_drew1)⟩
    cases b2
    · go_wp2_with (first | (go_at_call 87; with_reducible refine (impl_from.calls x1 0 3 _ _ F1.out).mono ?_; rintro e w' ⟨rfl, ⟨nd, rfl⟩⟩) | (go_at_call 87; with_reducible refine (impl_from.calls x2 0 3 _ _ F2.out).mono ?_; rintro e w' ⟨rfl, ⟨nd, rfl⟩⟩) | (go_at_call 87; with_reducible refine (impl_from.calls x3 0 3 _ _ F3.out).mono ?_; rintro e w' ⟨rfl, ⟨nd, rfl⟩⟩) | (go_at_call 87; with_reducible refine (impl_from.calls x4 0 63 _ _ F4.out).mono ?_; rintro e w' ⟨rfl, ⟨nd, rfl⟩⟩))
      go_ret
      exact ⟨by rw [hE]; rfl, by repeat (first | exact HB.out | apply pw_below_drewN | apply below_drew1)⟩
    cases b3
    · go_wp2_with (first | (go_at_call 87; with_reducible refine (impl_from.calls x1 0 3 _ _ F1.out).mono ?_; rintro e w' ⟨rfl, ⟨nd, rfl⟩⟩) | (go_at_call 87; with_reducible refine (impl_from.calls x2 0 3 _ _ F2.out).mono ?_; rintro e w' ⟨rfl, ⟨nd, rfl⟩⟩) | (go_at_call 87; with_reducible refine (impl_from.calls x3 0 3 _ _ F3.out).mono ?_; rintro e w' ⟨rfl, ⟨nd, rfl⟩⟩) | (go_at_call 87; with_reducible refine (impl_from.calls x4 0 63 _ _ F4.out).mono ?_; rintro e w' ⟨rfl, ⟨nd, rfl⟩⟩))
      go_ret
      exact ⟨by rw [hE]; rfl, by repeat (first | exact HB.out | apply pw_below_drewN | apply below_drew1)⟩
    go_wp2_with (first | (go_at_call 87; with_reducible refine (impl_from.calls x1 0 3 _ _ F1.out).mono ?_; rintro e w' ⟨rfl, ⟨nd, rfl⟩⟩) | (go_at_call 87; with_reducible refine (impl_from.calls x2 0 3 _ _ F2.out).mono ?_; rintro e w' ⟨rfl, ⟨nd, rfl⟩⟩) | (go_at_call 87; with_reducible refine (impl_from.calls x3 0 3 _ _ F3.out).mono ?_; rintro e w' ⟨rfl, ⟨nd, rfl⟩⟩) | (go_at_call 87; with_reducible refine (impl_from.calls x4 0 63 _ _ F4.out).mono ?_; rintro e w' ⟨rfl, ⟨nd, rfl⟩⟩))
    go_ret
    exact ⟨by rw [hE]; rfl, by repeat (first | exact HB.out | apply pw_below_drewN | apply below_drew1)⟩
/-- Is it an Ins: what an Op does not have is 0; the others in range. -/
def insOkB (o r a b n : Int) : Bool :=
  (if o = 1 then decide (a = 0) && decide (b = 0) else if o = 2 then decide (n = 0) else if o = 3 then decide (b = 0) else if o = 4 then decide (b = 0) else if o = 5 then decide (r = 0) else if o = 6 then true
   else if o = 7 then decide (r = 0) && decide (b = 0) else if o = 8 then decide (r = 0) && (decide (a = 0) && decide (b = 0)) else if o = 9 then decide (r = 0) && (decide (a = 0) && (decide (b = 0) && decide (n = 0))) else if o = 10 then decide (n = 0) else false)
  && (decide (0 ≤ r ∧ r ≤ 3) && (decide (0 ≤ a ∧ a ≤ 3) && (decide (0 ≤ b ∧ b ≤ 3) && decide (0 ≤ n ∧ n ≤ 63))))
def impl_InsOk.f (a0_0 a0_1 a0_2 a0_3 a0_4 : Int) : Option Bool := some (insOkB a0_0 a0_1 a0_2 a0_3 a0_4)
theorem insFrom (x lo hi : Int) : impl_from.f x lo hi = some (decide (lo ≤ x ∧ x ≤ hi)) := by
  unfold impl_from.f
  by_cases h : x ≥ lo
  · rw [if_pos h]; have h' : lo ≤ x := h; simp [h']
  rw [if_neg h]; have h' : ¬ lo ≤ x := h; simp [h']
theorem insBeq (x y : Int) : (x == y) = decide (y = x) := by
  by_cases h : x = y
  · subst h; simp
  have h' : ¬ y = x := fun e => h e.symm
  simp [h, h']
theorem insForm (x0 x1 x2 x3 x4 : Int) : ∃ (s : ByteArray) (ok : Bool) (y0 y1 y2 y3 y4 : Int), s.size ≤ 4 ∧ impl_form.f 3 x0 = some (s, ok) ∧ insFold s (x0, x1, x2, x3, x4) s.size = (y0, y1, y2, y3, y4) ∧
    (ok && ((y0 == x0 && (y1 == x1 && (y2 == x2 && (y3 == x3 && (y4 == x4))))) && (decide (0 ≤ x1 ∧ x1 ≤ 3) && (decide (0 ≤ x2 ∧ x2 ≤ 3) && (decide (0 ≤ x3 ∧ x3 ≤ 3) && decide (0 ≤ x4 ∧ x4 ≤ 63)))))) = insOkB x0 x1 x2 x3 x4 := by
  by_cases h1 : x0 = 1
  · subst h1; exact ⟨⟨#[82, 78]⟩, true, 1, x1, 0, 0, x4, by decide, rfl, rfl, by simp [insOkB, insBeq, Bool.and_assoc]⟩
  by_cases h2 : x0 = 2
  · subst h2; exact ⟨⟨#[82, 65, 66]⟩, true, 2, x1, x2, x3, 0, by decide, rfl, rfl, by simp [insOkB, insBeq, Bool.and_assoc]⟩
  by_cases h3 : x0 = 3
  · subst h3; exact ⟨⟨#[82, 65, 78]⟩, true, 3, x1, x2, 0, x4, by decide, rfl, rfl, by simp [insOkB, insBeq, Bool.and_assoc]⟩
  by_cases h4 : x0 = 4
  · subst h4; exact ⟨⟨#[82, 65, 78]⟩, true, 4, x1, x2, 0, x4, by decide, rfl, rfl, by simp [insOkB, insBeq, Bool.and_assoc]⟩
  by_cases h5 : x0 = 5
  · subst h5; exact ⟨⟨#[65, 66, 78]⟩, true, 5, 0, x2, x3, x4, by decide, rfl, rfl, by simp [insOkB, insBeq, Bool.and_assoc]⟩
  by_cases h6 : x0 = 6
  · subst h6; exact ⟨⟨#[82, 65, 66, 78]⟩, true, 6, x1, x2, x3, x4, by decide, rfl, rfl, by simp [insOkB, insBeq, Bool.and_assoc]⟩
  by_cases h7 : x0 = 7
  · subst h7; exact ⟨⟨#[65, 78]⟩, true, 7, 0, x2, 0, x4, by decide, rfl, rfl, by simp [insOkB, insBeq, Bool.and_assoc]⟩
  by_cases h8 : x0 = 8
  · subst h8; exact ⟨⟨#[78]⟩, true, 8, 0, 0, 0, x4, by decide, rfl, rfl, by simp [insOkB, insBeq, Bool.and_assoc]⟩
  by_cases h9 : x0 = 9
  · subst h9; exact ⟨⟨#[]⟩, true, 9, 0, 0, 0, 0, by decide, rfl, rfl, by simp [insOkB, insBeq, Bool.and_assoc]⟩
  by_cases h10 : x0 = 10
  · subst h10; exact ⟨⟨#[82, 65, 66]⟩, true, 10, x1, x2, x3, 0, by decide, rfl, rfl, by simp [insOkB, insBeq, Bool.and_assoc]⟩
  exact ⟨⟨#[]⟩, false, x0, 0, 0, 0, 0, by decide, by simp [impl_form.f, impl_form.j0, impl_form.j1, h1, h2, h3, h4, h5, h6, h7, h8, h9, h10], rfl, by simp [insOkB, h1, h2, h3, h4, h5, h6, h7, h8, h9, h10]⟩
theorem impl_InsOk.calls (a0_0 : Int) (a0_1 : Int) (a0_2 : Int) (a0_3 : Int) (a0_4 : Int) (r : Bool) (w : World) (h : impl_InsOk.f a0_0 a0_1 a0_2 a0_3 a0_4 = some r) :
    Calls Try.prog 107 #[.agg #[.int .i64 a0_0, .int .i64 a0_1, .int .i64 a0_2, .int .i64 a0_3, .int .i64 a0_4]] w fun e w' => e = .returned (.bool r) ∧ Below w.heap.size w w' := by
  obtain ⟨s, ok, y0, y1, y2, y3, y4, hs, hf, hy, hb⟩ := insForm a0_0 a0_1 a0_2 a0_3 a0_4
  obtain rfl := Option.some.inj h
  rw [← hb]
  exact insOk_calls 3 _ _ _ _ _ s ok w hs hf y0 y1 y2 y3 y4 hy _ _ _ _ (insFrom _ _ _) (insFrom _ _ _) (insFrom _ _ _) (insFrom _ _ _)

/-! ### impl_Code: function 131 -/
def impl_Code.f (a0_0 : Int) (a0_1 : Int) (a0_2 : Int) (a0_3 : Int) (a0_4 : Int) : Option (Int × Bool) := (impl_InsOk.f a0_0 a0_1 a0_2 a0_3 a0_4).bind fun t103 => (if t103 = true then (some (wrap64 ((wrap64 ((wrap64 ((wrap64 (a0_0 + (wrap64 (16 * a0_1)))) + (wrap64 (64 * a0_2)))) + (wrap64 (256 * a0_3)))) + (wrap64 (1024 * a0_4))), true)) else (some (0, false)))
set_option maxHeartbeats 8000000 in
set_option maxRecDepth 100000 in
theorem impl_Code.calls (a0_0 : Int) (a0_1 : Int) (a0_2 : Int) (a0_3 : Int) (a0_4 : Int) (r1 : Int) (r2 : Bool) (w : World) (h : impl_Code.f a0_0 a0_1 a0_2 a0_3 a0_4 = some (r1, r2)) :
    Calls Try.prog 131 #[.agg #[.int .i64 a0_0, .int .i64 a0_1, .int .i64 a0_2, .int .i64 a0_3, .int .i64 a0_4]] w fun e w' => e = .returned (.tuple #[.int .i64 r1, .bool r2]) ∧ Below w.heap.size w w' := by
  have hu54 := Try.underlying54
  have HB := Aside0.mk (Below.refl w.heap.size w)
  have H : ((impl_InsOk.f a0_0 a0_1 a0_2 a0_3 a0_4).bind fun t103 => (if t103 = true then (some (wrap64 ((wrap64 ((wrap64 ((wrap64 (a0_0 + (wrap64 (16 * a0_1)))) + (wrap64 (64 * a0_2)))) + (wrap64 (256 * a0_3)))) + (wrap64 (1024 * a0_4))), true)) else (some (0, false)))) = some (r1, r2) := h
  clear h
  replace H := Option.bind_eq_some_iff.mp H
  obtain ⟨t103, A20, H⟩ := H
  replace H : (if t103 = true then (some (wrap64 ((wrap64 ((wrap64 ((wrap64 (a0_0 + (wrap64 (16 * a0_1)))) + (wrap64 (64 * a0_2)))) + (wrap64 (256 * a0_3)))) + (wrap64 (1024 * a0_4))), true)) else (some (0, false))) = some (r1, r2) := H
  have A2 := Aside0.mk A20
  clear A20
  by_cases c3 : t103 = true
  rotate_left
  · replace c3 := Bool.eq_false_iff.mpr c3
    subst c3
    have H1 : (some (0, false)) = some (r1, r2) := by rw [if_neg (show ¬ (false = true) by decide)] at H; exact H
    clear H
    have H := H1
    clear H1
    simp only [Option.some.injEq, Prod.mk.injEq] at H
    obtain ⟨rfl, rfl⟩ := H
    go_enter Try.func131, Try.ntmps131
    go_wp2_with (first | ((with_reducible refine gate_dst (N := 1) rfl ?_); refine box_event ?hg (N := 1) ?hd (cs := #[.int .i64 a0_0, .int .i64 a0_1, .int .i64 a0_2, .int .i64 a0_3, .int .i64 a0_4]) (t := 54) ?hr ?_; (case hd => rfl); (case hg => rfl); (case hr => first | (go_simp; done) | (go_simp; rfl)); intro gb102 hg w8 hbox hb; have n0_ := Aside0.mk (below_step (zB2_1) hb); have n1_ := Aside0.mk (hbox); have n2_ := Aside0.mk ((by rw [hg]; exact (below_size (zB2_1)) : w.heap.size ≤ gb102)); have n3_ := Aside0.mk ((by rw [hg]; exact (below_size (zB2_1)) : w.heap.size ≤ gb102)); clear HB; have HB := n0_; have BK102 := n1_; have GW102 := n2_; have GE102 := n3_; clear n0_ n1_ n2_ n3_; clear hb hbox hg; have hcz9_0 : w8.cell? ⟨gb102, 0, none⟩ = some (.int .i64 a0_0) := (blk_cell BK102.out 0).trans rfl; have hcz9_1 : w8.cell? ⟨gb102, 1, none⟩ = some (.int .i64 a0_1) := (blk_cell BK102.out 1).trans rfl; have hcz9_2 : w8.cell? ⟨gb102, 2, none⟩ = some (.int .i64 a0_2) := (blk_cell BK102.out 2).trans rfl; have hcz9_3 : w8.cell? ⟨gb102, 3, none⟩ = some (.int .i64 a0_3) := (blk_cell BK102.out 3).trans rfl; have hcz9_4 : w8.cell? ⟨gb102, 4, none⟩ = some (.int .i64 a0_4) := (blk_cell BK102.out 4).trans rfl; have hfz9_0 := blk_frozen BK102.out 0; have hfz9_1 := blk_frozen BK102.out 1; have hfz9_2 := blk_frozen BK102.out 2; have hfz9_3 := blk_frozen BK102.out 3; have hfz9_4 := blk_frozen BK102.out 4) | ((with_reducible refine gate_callee (f := 107) rfl ?_); refine goesL_ (some 5) rfl rfl Try.func107 (by kernel_rfl) rfl #[.agg #[.int .i64 a0_0, .int .i64 a0_1, .int .i64 a0_2, .int .i64 a0_3, .int .i64 a0_4]] rfl zT2 ?_; (with_reducible refine (impl_InsOk.calls a0_0 a0_1 a0_2 a0_3 a0_4 false _ A2.out).mono ?_); rintro e w10 ⟨rfl, hb⟩; refine ⟨_, rfl, ?_⟩; have n0_ := Aside0.mk (blk_below (g := gb102) (o := .cells #[.int .i64 a0_0, .int .i64 a0_1, .int .i64 a0_2, .int .i64 a0_3, .int .i64 a0_4] 54 (0, 0)) (zK2 BK102.out) hb); have n1_ := Aside0.mk (below_step (zB2_2) hb); clear BK102; clear HB; have BK102 := n0_; have HB := n1_; clear n0_ n1_; (try clear hb); (try clear hb2); (try clear hk); (try clear hi)))
    go_ret2
    exact ⟨zE2, zB2_2⟩
  subst c3
  have H1 : (some (wrap64 ((wrap64 ((wrap64 ((wrap64 (a0_0 + (wrap64 (16 * a0_1)))) + (wrap64 (64 * a0_2)))) + (wrap64 (256 * a0_3)))) + (wrap64 (1024 * a0_4))), true)) = some (r1, r2) := by rw [if_pos rfl] at H; exact H
  clear H
  have H := H1
  clear H1
  simp only [Option.some.injEq, Prod.mk.injEq] at H
  obtain ⟨rfl, rfl⟩ := H
  go_enter Try.func131, Try.ntmps131
  go_wp2_with (first | ((with_reducible refine gate_dst (N := 1) rfl ?_); refine box_event ?hg (N := 1) ?hd (cs := #[.int .i64 a0_0, .int .i64 a0_1, .int .i64 a0_2, .int .i64 a0_3, .int .i64 a0_4]) (t := 54) ?hr ?_; (case hd => rfl); (case hg => rfl); (case hr => first | (go_simp; done) | (go_simp; rfl)); intro gb102 hg w4 hbox hb; have n0_ := Aside0.mk (below_step (zB2_1) hb); have n1_ := Aside0.mk (hbox); have n2_ := Aside0.mk ((by rw [hg]; exact (below_size (zB2_1)) : w.heap.size ≤ gb102)); have n3_ := Aside0.mk ((by rw [hg]; exact (below_size (zB2_1)) : w.heap.size ≤ gb102)); clear HB; have HB := n0_; have BK102 := n1_; have GW102 := n2_; have GE102 := n3_; clear n0_ n1_ n2_ n3_; clear hb hbox hg; have hcz5_0 : w4.cell? ⟨gb102, 0, none⟩ = some (.int .i64 a0_0) := (blk_cell BK102.out 0).trans rfl; have hcz5_1 : w4.cell? ⟨gb102, 1, none⟩ = some (.int .i64 a0_1) := (blk_cell BK102.out 1).trans rfl; have hcz5_2 : w4.cell? ⟨gb102, 2, none⟩ = some (.int .i64 a0_2) := (blk_cell BK102.out 2).trans rfl; have hcz5_3 : w4.cell? ⟨gb102, 3, none⟩ = some (.int .i64 a0_3) := (blk_cell BK102.out 3).trans rfl; have hcz5_4 : w4.cell? ⟨gb102, 4, none⟩ = some (.int .i64 a0_4) := (blk_cell BK102.out 4).trans rfl; have hfz5_0 := blk_frozen BK102.out 0; have hfz5_1 := blk_frozen BK102.out 1; have hfz5_2 := blk_frozen BK102.out 2; have hfz5_3 := blk_frozen BK102.out 3; have hfz5_4 := blk_frozen BK102.out 4) | ((with_reducible refine gate_callee (f := 107) rfl ?_); refine goesL_ (some 5) rfl rfl Try.func107 (by kernel_rfl) rfl #[.agg #[.int .i64 a0_0, .int .i64 a0_1, .int .i64 a0_2, .int .i64 a0_3, .int .i64 a0_4]] rfl zT2 ?_; (with_reducible refine (impl_InsOk.calls a0_0 a0_1 a0_2 a0_3 a0_4 true _ A2.out).mono ?_); rintro e w6 ⟨rfl, hb⟩; refine ⟨_, rfl, ?_⟩; have n0_ := Aside0.mk (blk_below (g := gb102) (o := .cells #[.int .i64 a0_0, .int .i64 a0_1, .int .i64 a0_2, .int .i64 a0_3, .int .i64 a0_4] 54 (0, 0)) (zK2 BK102.out) hb); have n1_ := Aside0.mk (below_step (zB2_2) hb); clear BK102; clear HB; have BK102 := n0_; have HB := n1_; clear n0_ n1_; (try clear hb); (try clear hb2); (try clear hk); (try clear hi); have hcz7_0 : w6.cell? ⟨gb102, 0, none⟩ = some (.int .i64 a0_0) := (blk_cell BK102.out 0).trans rfl; have hcz7_1 : w6.cell? ⟨gb102, 1, none⟩ = some (.int .i64 a0_1) := (blk_cell BK102.out 1).trans rfl; have hcz7_2 : w6.cell? ⟨gb102, 2, none⟩ = some (.int .i64 a0_2) := (blk_cell BK102.out 2).trans rfl; have hcz7_3 : w6.cell? ⟨gb102, 3, none⟩ = some (.int .i64 a0_3) := (blk_cell BK102.out 3).trans rfl; have hcz7_4 : w6.cell? ⟨gb102, 4, none⟩ = some (.int .i64 a0_4) := (blk_cell BK102.out 4).trans rfl; have hfz7_0 := blk_frozen BK102.out 0; have hfz7_1 := blk_frozen BK102.out 1; have hfz7_2 := blk_frozen BK102.out 2; have hfz7_3 := blk_frozen BK102.out 3; have hfz7_4 := blk_frozen BK102.out 4))
  go_ret2
  exact ⟨zE2, zB2_2⟩

/-! ### impl_isCell: function 150 -/
def impl_isCell.f (a0 : Int) : Option (Bool) := (impl_from.f a0 0 23).bind fun t104 => (some t104)
set_option maxHeartbeats 8000000 in
set_option maxRecDepth 100000 in
theorem impl_isCell.calls (a0 : Int) (r : Bool) (w : World) (h : impl_isCell.f a0 = some r) :
    Calls Try.prog 150 #[.int .i64 a0] w fun e w' => e = .returned (.bool r) ∧ Drawn0 w w' := by
  have H : ((impl_from.f a0 0 23).bind fun t104 => (some t104)) = some r := h
  clear h
  replace H := Option.bind_eq_some_iff.mp H
  obtain ⟨t104, A20, H⟩ := H
  replace H : (some t104) = some r := H
  have A2 := Aside0.mk A20
  clear A20
  obtain rfl := Option.some.inj H
  go_enter Try.func150, Try.ntmps150
  go_wp2_with (first | ((with_reducible refine gate_callee (f := 87) rfl ?_); refine goesL_ (some 4) rfl rfl Try.func87 (by kernel_rfl) rfl #[.int .i64 a0, .int .i64 0, .int .i64 23] rfl zT2 ?_; (with_reducible refine (impl_from.calls a0 0 23 t104 _ A2.out).mono ?_); rintro e w' ⟨rfl, ⟨nd, rfl⟩⟩; refine ⟨_, rfl, ?_⟩))
  go_ret
  exact ⟨by first | rfl | (simp; done) | (simp [*]; done), by repeat (first | exact Drawn0.refl _ | apply Drawn0.step)⟩

/-! ### impl_coded: function 82 -/
mutual
def impl_coded.j0 : Nat → List (S54) → Bool → Option (List Int × Bool)
  | 0, _, _ => none
  | k + 1, x3, x41 => if x41 = true then (some (([] : List Int), false)) else (impl_coded.l0 k (([] : List Int)) x3 (x3.length : Int) 0)
def impl_coded.l0 : Nat → List Int → List (S54) → Int → Int → Option (List Int × Bool)
  | 0, _, _, _, _ => none
  | k + 1, x11, x43, x44, x45 => if x45 < x44 then (if 0 ≤ x45 then (if x45 < (x43.length : Int) then ((impl_Code.f ((rd_T54 x43 x45).f0) ((rd_T54 x43 x45).f1) ((rd_T54 x43 x45).f2) ((rd_T54 x43 x45).f3) ((rd_T54 x43 x45).f4)).bind fun bt114 => (if x11.length < 17592186044416 then (impl_coded.l0 k (x11 ++ [bt114.1]) x43 x44 (wrap64 (x45 + 1))) else (none))) else (none)) else (none)) else (some (x11, true))
end
def impl_coded.f (k : Nat) (a0 : Int) (a1 : Int) (a2 : Int) (l3 : List (S54)) : Option (List Int × Bool) := (impl_isCell.f a0).bind fun t105 => (if t105 = true then ((impl_from.f a1 1 63).bind fun t106 => (if t106 = true then ((impl_from.f a2 0 (wrap64 (24 - (l3.length : Int)))).bind fun t107 => (if t107 = true then ((impl_from.f a0 a2 (wrap64 ((wrap64 (a2 + (l3.length : Int))) - 1))).bind fun t108 => (impl_coded.j0 k l3 t108)) else (impl_coded.j0 k l3 true))) else (impl_coded.j0 k l3 true))) else (impl_coded.j0 k l3 true))
theorem impl_coded.mono_l : ∀ k, (∀ y0 y1, LeO (impl_coded.j0 k y0 y1) (impl_coded.j0 (k + 1) y0 y1)) ∧ (∀ y0 y1 y2 y3, LeO (impl_coded.l0 k y0 y1 y2 y3) (impl_coded.l0 (k + 1) y0 y1 y2 y3))
  | 0 => ⟨fun _ _ r h => by simp [impl_coded.j0] at h, fun _ _ _ _ r h => by simp [impl_coded.l0] at h⟩
  | k + 1 => by
    obtain ⟨ih0, ih1⟩ := impl_coded.mono_l k
    refine ⟨?_, ?_⟩
    · intro y0 y1
      unfold impl_coded.j0
      repeat' first
      | (with_reducible exact ih0 _ _)
      | (with_reducible exact ih1 _ _ _ _)
      | (with_reducible exact LeO.refl _)
      | (with_reducible exact LeO.none _)
      | (with_reducible refine LeO.ite ?_ ?_)
      | (with_reducible refine LeO.bind ?_ (fun _ => ?_))
      | exact ih0 _ _
      | exact ih1 _ _ _ _
      | exact LeO.none _
      | refine LeO.ite ?_ ?_
      | refine LeO.bind ?_ (fun _ => ?_)
    · intro y0 y1 y2 y3
      unfold impl_coded.l0
      repeat' first
      | (with_reducible exact ih0 _ _)
      | (with_reducible exact ih1 _ _ _ _)
      | (with_reducible exact LeO.refl _)
      | (with_reducible exact LeO.none _)
      | (with_reducible refine LeO.ite ?_ ?_)
      | (with_reducible refine LeO.bind ?_ (fun _ => ?_))
      | exact ih0 _ _
      | exact ih1 _ _ _ _
      | exact LeO.none _
      | refine LeO.ite ?_ ?_
      | refine LeO.bind ?_ (fun _ => ?_)
theorem impl_coded.mono : ∀ a0 a1 a2 a3 k, LeO (impl_coded.f k a0 a1 a2 a3) (impl_coded.f (k + 1) a0 a1 a2 a3) := by
  intro a0 a1 a2 a3 k
  obtain ⟨ih0, ih1⟩ := impl_coded.mono_l k
  unfold impl_coded.f
  repeat' first
      | (with_reducible exact ih0 _ _)
      | (with_reducible exact ih1 _ _ _ _)
      | (with_reducible exact LeO.refl _)
      | (with_reducible exact LeO.none _)
      | (with_reducible refine LeO.ite ?_ ?_)
      | (with_reducible refine LeO.bind ?_ (fun _ => ?_))
      | exact ih0 _ _
      | exact ih1 _ _ _ _
      | exact LeO.none _
      | refine LeO.ite ?_ ?_
      | refine LeO.bind ?_ (fun _ => ?_)
set_option maxHeartbeats 8000000 in
set_option maxRecDepth 100000 in
theorem impl_coded.calls (k : Nat) (a0 : Int) (a1 : Int) (a2 : Int) (A3 : Option Addr) (c3 : Nat) (l3 : List (S54)) (r1 : List Int) (r2 : Bool) (w : World) (hr3 : Kd.C k54 w A3 l3.length l3) (hc3 : l3.length ≤ c3) (h : impl_coded.f k a0 a1 a2 l3 = some (r1, r2)) :
    Calls Try.prog 82 #[.int .i64 a0, .int .i64 a1, .int .i64 a2, .slice A3 l3.length c3] w fun e w' => ∃ v0_ : Value, e = .returned (.tuple #[v0_, .bool r2]) ∧ Kd.R (Kd.int .i64) 3 w' w.heap.size (fun _ => True) v0_ r1 ∧ Below w.heap.size w w' := by
  have hu54 := Try.underlying54
  have HR3 := Aside0.mk hr3
  have HC3 := Aside0.mk hc3
  clear hr3 hc3
  have HB := Aside0.mk (Below.refl w.heap.size w)
  have H : ((impl_isCell.f a0).bind fun t105 => (if t105 = true then ((impl_from.f a1 1 63).bind fun t106 => (if t106 = true then ((impl_from.f a2 0 (wrap64 (24 - (l3.length : Int)))).bind fun t107 => (if t107 = true then ((impl_from.f a0 a2 (wrap64 ((wrap64 (a2 + (l3.length : Int))) - 1))).bind fun t108 => (impl_coded.j0 k l3 t108)) else (impl_coded.j0 k l3 true))) else (impl_coded.j0 k l3 true))) else (impl_coded.j0 k l3 true))) = some (r1, r2) := h
  clear h
  have HC5 := Aside0.mk H
  clear H
  go_enter Try.func82, Try.ntmps82
  go_upto_region 2 with (fail)
  go_cut [41] (fun v41 wc => ∃ (kq : Nat) (x41_4 : Bool), v41 = .bool x41_4 ∧ Aside0 (impl_coded.j0 kq l3 x41_4 = some (r1, r2)) ∧ Aside0 (kq ≤ k) ∧ Aside0 (Below w.heap.size w wc))
  case first =>
    have H := HC5.out
    clear HC5
    replace H := Option.bind_eq_some_iff.mp H
    obtain ⟨t105, A60, H⟩ := H
    replace H : (if t105 = true then ((impl_from.f a1 1 63).bind fun t106 => (if t106 = true then ((impl_from.f a2 0 (wrap64 (24 - (l3.length : Int)))).bind fun t107 => (if t107 = true then ((impl_from.f a0 a2 (wrap64 ((wrap64 (a2 + (l3.length : Int))) - 1))).bind fun t108 => (impl_coded.j0 k l3 t108)) else (impl_coded.j0 k l3 true))) else (impl_coded.j0 k l3 true))) else (impl_coded.j0 k l3 true)) = some (r1, r2) := H
    have A6 := Aside0.mk A60
    clear A60
    by_cases c7 : t105 = true
    rotate_left
    · replace c7 := Bool.eq_false_iff.mpr c7
      subst c7
      have H1 : (impl_coded.j0 k l3 true) = some (r1, r2) := by rw [if_neg (show ¬ (false = true) by decide)] at H; exact H
      clear H
      have H := H1
      clear H1
      have H' := Aside0.mk H
      clear H
      go_wp2_with (first | ((with_reducible refine gate_callee (f := 150) rfl ?_); refine goesL_ (some 19) rfl rfl Try.func150 (by kernel_rfl) rfl #[.int .i64 a0] rfl zT2 ?_; (with_reducible refine (impl_isCell.calls a0 false _ A6.out).mono ?_); rintro e w' ⟨rfl, ⟨nd, rfl⟩⟩; refine ⟨_, rfl, ?_⟩))
      go_meet
      case rel => exact ⟨_, (true), (by first | rfl | (simp; done) | (simp [*]; done)), H', ⟨by first | omega | exact Nat.le_refl _⟩, ⟨zB2_1⟩⟩
    subst c7
    have H1 : ((impl_from.f a1 1 63).bind fun t106 => (if t106 = true then ((impl_from.f a2 0 (wrap64 (24 - (l3.length : Int)))).bind fun t107 => (if t107 = true then ((impl_from.f a0 a2 (wrap64 ((wrap64 (a2 + (l3.length : Int))) - 1))).bind fun t108 => (impl_coded.j0 k l3 t108)) else (impl_coded.j0 k l3 true))) else (impl_coded.j0 k l3 true))) = some (r1, r2) := by rw [if_pos rfl] at H; exact H
    clear H
    have H := H1
    clear H1
    replace H := Option.bind_eq_some_iff.mp H
    obtain ⟨t106, A80, H⟩ := H
    replace H : (if t106 = true then ((impl_from.f a2 0 (wrap64 (24 - (l3.length : Int)))).bind fun t107 => (if t107 = true then ((impl_from.f a0 a2 (wrap64 ((wrap64 (a2 + (l3.length : Int))) - 1))).bind fun t108 => (impl_coded.j0 k l3 t108)) else (impl_coded.j0 k l3 true))) else (impl_coded.j0 k l3 true)) = some (r1, r2) := H
    have A8 := Aside0.mk A80
    clear A80
    by_cases c9 : t106 = true
    rotate_left
    · replace c9 := Bool.eq_false_iff.mpr c9
      subst c9
      have H1 : (impl_coded.j0 k l3 true) = some (r1, r2) := by rw [if_neg (show ¬ (false = true) by decide)] at H; exact H
      clear H
      have H := H1
      clear H1
      have H' := Aside0.mk H
      clear H
      go_wp2_with (first | ((with_reducible refine gate_callee (f := 150) rfl ?_); refine goesL_ (some 19) rfl rfl Try.func150 (by kernel_rfl) rfl #[.int .i64 a0] rfl zT2 ?_; (with_reducible refine (impl_isCell.calls a0 true _ A6.out).mono ?_); rintro e w' ⟨rfl, ⟨nd, rfl⟩⟩; refine ⟨_, rfl, ?_⟩) | (go_at_call 87; (with_reducible refine (impl_from.calls a1 1 63 false _ A8.out).mono ?_); rintro e w' ⟨rfl, ⟨nd, rfl⟩⟩))
      go_meet
      case rel => exact ⟨_, (true), (by first | rfl | (simp; done) | (simp [*]; done)), H', ⟨by first | omega | exact Nat.le_refl _⟩, ⟨zB2_1⟩⟩
    subst c9
    have H1 : ((impl_from.f a2 0 (wrap64 (24 - (l3.length : Int)))).bind fun t107 => (if t107 = true then ((impl_from.f a0 a2 (wrap64 ((wrap64 (a2 + (l3.length : Int))) - 1))).bind fun t108 => (impl_coded.j0 k l3 t108)) else (impl_coded.j0 k l3 true))) = some (r1, r2) := by rw [if_pos rfl] at H; exact H
    clear H
    have H := H1
    clear H1
    replace H := Option.bind_eq_some_iff.mp H
    obtain ⟨t107, A100, H⟩ := H
    replace H : (if t107 = true then ((impl_from.f a0 a2 (wrap64 ((wrap64 (a2 + (l3.length : Int))) - 1))).bind fun t108 => (impl_coded.j0 k l3 t108)) else (impl_coded.j0 k l3 true)) = some (r1, r2) := H
    have A10 := Aside0.mk A100
    clear A100
    by_cases c11 : t107 = true
    rotate_left
    · replace c11 := Bool.eq_false_iff.mpr c11
      subst c11
      have H1 : (impl_coded.j0 k l3 true) = some (r1, r2) := by rw [if_neg (show ¬ (false = true) by decide)] at H; exact H
      clear H
      have H := H1
      clear H1
      have H' := Aside0.mk H
      clear H
      go_wp2_with (first | ((with_reducible refine gate_callee (f := 150) rfl ?_); refine goesL_ (some 19) rfl rfl Try.func150 (by kernel_rfl) rfl #[.int .i64 a0] rfl zT2 ?_; (with_reducible refine (impl_isCell.calls a0 true _ A6.out).mono ?_); rintro e w' ⟨rfl, ⟨nd, rfl⟩⟩; refine ⟨_, rfl, ?_⟩) | (go_at_call 87; (with_reducible refine (impl_from.calls a1 1 63 true _ A8.out).mono ?_); rintro e w' ⟨rfl, ⟨nd, rfl⟩⟩) | (go_at_call 87; (with_reducible refine (impl_from.calls a2 0 (wrap64 (24 - (l3.length : Int))) false _ A10.out).mono ?_); rintro e w' ⟨rfl, ⟨nd, rfl⟩⟩))
      go_meet
      case rel => exact ⟨_, (true), (by first | rfl | (simp; done) | (simp [*]; done)), H', ⟨by first | omega | exact Nat.le_refl _⟩, ⟨zB2_1⟩⟩
    subst c11
    have H1 : ((impl_from.f a0 a2 (wrap64 ((wrap64 (a2 + (l3.length : Int))) - 1))).bind fun t108 => (impl_coded.j0 k l3 t108)) = some (r1, r2) := by rw [if_pos rfl] at H; exact H
    clear H
    have H := H1
    clear H1
    replace H := Option.bind_eq_some_iff.mp H
    obtain ⟨t108, A120, H⟩ := H
    replace H : (impl_coded.j0 k l3 t108) = some (r1, r2) := H
    have A12 := Aside0.mk A120
    clear A120
    have H' := Aside0.mk H
    clear H
    go_wp2_with (first | ((with_reducible refine gate_callee (f := 150) rfl ?_); refine goesL_ (some 19) rfl rfl Try.func150 (by kernel_rfl) rfl #[.int .i64 a0] rfl zT2 ?_; (with_reducible refine (impl_isCell.calls a0 true _ A6.out).mono ?_); rintro e w' ⟨rfl, ⟨nd, rfl⟩⟩; refine ⟨_, rfl, ?_⟩) | (go_at_call 87; (with_reducible refine (impl_from.calls a1 1 63 true _ A8.out).mono ?_); rintro e w' ⟨rfl, ⟨nd, rfl⟩⟩) | (go_at_call 87; (with_reducible refine (impl_from.calls a2 0 (wrap64 (24 - (l3.length : Int))) true _ A10.out).mono ?_); rintro e w' ⟨rfl, ⟨nd, rfl⟩⟩) | (go_at_call 87; (with_reducible refine (impl_from.calls a0 a2 (wrap64 ((wrap64 (a2 + (l3.length : Int))) - 1)) t108 _ A12.out).mono ?_); rintro e w' ⟨rfl, ⟨nd, rfl⟩⟩))
    go_meet
    case rel => exact ⟨_, (t108), (by first | rfl | (simp; done) | (simp [*]; done)), H', ⟨by first | omega | exact Nat.le_refl _⟩, ⟨zB2_1⟩⟩
  case rest =>
    clear HC5
    try clear c1
    try clear p2
    try clear c3
    try clear p6
    try clear c7
    try clear c8
    try clear c9
    try clear c11
    obtain ⟨kq, x41_4, rfl, HA, HJ4, HB⟩ := hcut
    cases kq with
    | zero => exact absurd HA.out (by simp [impl_coded.j0])
    | succ kj4 =>
      have H := HA.out
      clear HA
      simp only [impl_coded.j0] at H
      by_cases c13 : x41_4 = true
      · subst c13
        have H1 : (some (([] : List Int), false)) = some (r1, r2) := by rw [if_pos rfl] at H; exact H
        clear H
        have H := H1
        clear H1
        simp only [Option.some.injEq, Prod.mk.injEq] at H
        obtain ⟨rfl, rfl⟩ := H
        go_wp2
        go_ret2
        exact ⟨_, zE2, by first | exact Kd.R_nil _ _ _ _ _ | exact Kd.N_nil _ _ _ _ _ | exact Kd.V_nil _ _ _ _ _ | exact Kd.Q_nil _ _ _ _ _ | exact Kd.S_nil _ _ _ _ _, zB2_1⟩
      replace c13 := Bool.eq_false_iff.mpr c13
      subst c13
      have H1 : (impl_coded.l0 kj4 (([] : List Int)) l3 (l3.length : Int) 0) = some (r1, r2) := by rw [if_neg (show ¬ (false = true) by decide)] at H; exact H
      clear H
      have H := H1
      clear H1
      obtain ⟨y109, hy109⟩ : ∃ y_ : List Int, y_ = (([] : List Int)) := ⟨_, rfl⟩
      replace H : (impl_coded.l0 kj4 y109 l3 (l3.length : Int) 0) = some (r1, r2) := by first | (rw [hy109]; with_reducible exact H) | (have H2_ := (Option.bind_some _ _).symm.trans H; rw [hy109]; with_reducible exact H2_) | (have H2_ := (Option.bind_some _ _).symm.trans H; with_reducible exact H2_) | with_reducible exact H | (rw [hy109]; exact H) | exact H
      have Ny109 := Aside0.mk hy109
      clear hy109
      have H' := Aside0.mk H
      clear H
      go_wp2_with (first | ((with_reducible refine gate_dst (N := 42) rfl ?_); refine Kd.R_lit (Kd.int .i64) _ 3 ?hg (N := 42) ?hd (xs := ([] : List Int)) (inner := []) (ok := fun _ => True) (okp := fun _ => True) ?hr ?hp (fun _ hk => hk) trivial (Below.refl _ _) (Nat.le_refl _) (by simp) ?_; (case hd => rfl); (case hg => rfl); (case hr => first | (go_simp; done) | (go_simp; rfl)); (case hp => exact (Reps.none _ _)); intro v110 w14 ho15 hb hg_ hnew_; clear hg_ hnew_; (first | rw [← Ny109.out] at ho15 | (simp only [Int.reduceToNat] at ho15; rw [← Ny109.out] at ho15)); have n0_ := Aside0.mk (Kd.R_lower ho15 (below_size (zB2_1))); have n1_ := Aside0.mk (below_step (zB2_1) hb); clear HB; have HO111 := n0_; have HB := n1_; clear n0_ n1_; clear hb ho15))
      go_loopg [11, 45] kj4 (fun kq v11 v45 w' => ∃ (x11_2 : List Int) (x45_2 : Int), v45 = .int .i64 x45_2 ∧ Aside0 (impl_coded.l0 kq x11_2 l3 (l3.length : Int) x45_2 = some (r1, r2)) ∧ Aside0 (kq ≤ kj4) ∧ Aside0 (Kd.R (Kd.int .i64) 3 w' w.heap.size (fun _ => True) v11 x11_2) ∧ Aside0 (Below w.heap.size w w'))
      case atStart => exact ⟨(y109), (0), (by first | rfl | (simp; done) | (simp [*]; done)), H', ⟨Nat.le_refl _⟩, ⟨zR2 HO111.out⟩, ⟨zB2_1⟩⟩
      case round =>
        clear H'
        try clear c1
        try clear p2
        try clear c3
        try clear p6
        try clear c7
        try clear c8
        try clear c9
        try clear c11
        try clear c13
        try clear c15
        try clear p2
        try clear p6
        obtain ⟨x11_2, x45_2, rfl, HA, HK2, HO_11, HB⟩ := hrel
        cases gk with
        | zero => exact absurd HA.out (by simp [impl_coded.l0])
        | succ k2 =>
          have H := HA.out
          clear HA
          simp only [impl_coded.l0] at H
          by_cases c16 : x45_2 < (l3.length : Int)
          rotate_left
          · rw [if_neg c16] at H
            have c16b0 : decide (x45_2 < (l3.length : Int)) = false := decide_eq_false c16
            clear c16
            simp only [Option.some.injEq, Prod.mk.injEq] at H
            obtain ⟨rfl, rfl⟩ := H
            go_wp2
            go_ret2
            exact ⟨_, zE2, zR2 HO_11.out, zB2_1⟩
          rw [if_pos c16] at H
          have c16b0 : decide (x45_2 < (l3.length : Int)) = true := decide_eq_true c16
          clear c16
          by_cases c17 : 0 ≤ x45_2
          rotate_left
          · rw [if_neg c17] at H
            exact absurd H (by simp)
          rw [if_pos c17] at H
          have c17b0 : decide (0 ≤ x45_2) = true := decide_eq_true c17
          clear c17
          by_cases c18 : x45_2 < (l3.length : Int)
          rotate_left
          · rw [if_neg c18] at H
            exact absurd H (by simp)
          rw [if_pos c18] at H
          have c18b0 : decide (x45_2 < (l3.length : Int)) = true := decide_eq_true c18
          clear c18
          replace H := Option.bind_eq_some_iff.mp H
          obtain ⟨⟨t114, t115⟩, A190, H⟩ := H
          replace H : (if x11_2.length < 17592186044416 then (impl_coded.l0 k2 (x11_2 ++ [t114]) l3 (l3.length : Int) (wrap64 (x45_2 + 1))) else (none)) = some (r1, r2) := H
          have A19 := Aside0.mk A190
          clear A190
          by_cases c20 : x11_2.length < 17592186044416
          rotate_left
          · rw [if_neg c20] at H
            exact absurd H (by simp)
          rw [if_pos c20] at H
          have LMc20 := Aside0.mk c20
          clear c20
          obtain ⟨y116, hy116⟩ : ∃ y_ : List Int, y_ = (x11_2 ++ [t114]) := ⟨_, rfl⟩
          replace H : (impl_coded.l0 k2 y116 l3 (l3.length : Int) (wrap64 (x45_2 + 1))) = some (r1, r2) := by first | (rw [hy116]; with_reducible exact H) | (have H2_ := (Option.bind_some _ _).symm.trans H; rw [hy116]; with_reducible exact H2_) | (have H2_ := (Option.bind_some _ _).symm.trans H; with_reducible exact H2_) | with_reducible exact H | (rw [hy116]; exact H) | exact H
          have Ny116 := Aside0.mk hy116
          clear hy116
          have H' := Aside0.mk H
          clear H
          have p112 : 0 ≤ (x45_2 : Int) := zA2
          have q112 : x45_2 < (l3.length : Int) := zA2
          obtain ⟨ad112, e112, hx112_0, hx112_1, hx112_2, hx112_3, hx112_4⟩ := at_T54 HR3.out x45_2 p112 q112
          cases e112
          replace hx112_0 := (HB.out.cell (World.block_lt_of_cell? w _ hx112_0)).trans hx112_0
          replace hx112_1 := (HB.out.cell (World.block_lt_of_cell? w _ hx112_1)).trans hx112_1
          replace hx112_2 := (HB.out.cell (World.block_lt_of_cell? w _ hx112_2)).trans hx112_2
          replace hx112_3 := (HB.out.cell (World.block_lt_of_cell? w _ hx112_3)).trans hx112_3
          replace hx112_4 := (HB.out.cell (World.block_lt_of_cell? w _ hx112_4)).trans hx112_4
          replace p112 := eq_true p112
          replace q112 := eq_true q112
          go_wp2_with (first | ((with_reducible refine gate_dst (N := 13) rfl ?_); refine box_event ?hg (N := 13) ?hd (cs := #[.int .i64 0, .int .i64 0, .int .i64 0, .int .i64 0, .int .i64 0]) (t := 54) ?hr ?_; (case hd => rfl); (case hg => rfl); (case hr => first | (go_simp; done) | (go_simp; rfl)); intro gb113 hg w21 hbox hb; have n0_ := Aside0.mk (Kd.R_below (zR2 HO_11.out) hb); have n1_ := Aside0.mk (below_step (zB2_1) hb); have n2_ := Aside0.mk (hbox); have n3_ := Aside0.mk ((by rw [hg]; exact (below_size (zB2_1)) : w.heap.size ≤ gb113)); have n4_ := Aside0.mk ((by rw [hg]; exact (below_size (zB2_1)) : w.heap.size ≤ gb113)); clear HO_11; clear HB; have HO_11 := n0_; have HB := n1_; have BK113 := n2_; have GW113 := n3_; have GE113 := n4_; clear n0_ n1_ n2_ n3_ n4_; clear hb hbox hg; have hcz22_0 : w21.cell? ⟨gb113, 0, none⟩ = some (.int .i64 0) := (blk_cell BK113.out 0).trans rfl; have hcz22_1 : w21.cell? ⟨gb113, 1, none⟩ = some (.int .i64 0) := (blk_cell BK113.out 1).trans rfl; have hcz22_2 : w21.cell? ⟨gb113, 2, none⟩ = some (.int .i64 0) := (blk_cell BK113.out 2).trans rfl; have hcz22_3 : w21.cell? ⟨gb113, 3, none⟩ = some (.int .i64 0) := (blk_cell BK113.out 3).trans rfl; have hcz22_4 : w21.cell? ⟨gb113, 4, none⟩ = some (.int .i64 0) := (blk_cell BK113.out 4).trans rfl; have hfz22_0 := blk_frozen BK113.out 0; have hfz22_1 := blk_frozen BK113.out 1; have hfz22_2 := blk_frozen BK113.out 2; have hfz22_3 := blk_frozen BK113.out 3; have hfz22_4 := blk_frozen BK113.out 4) | ((with_reducible refine gate_callee (f := 131) rfl ?_); refine goesL_ (some 51) rfl rfl Try.func131 (by kernel_rfl) rfl #[.agg #[.int .i64 ((rd_T54 l3 x45_2).f0), .int .i64 ((rd_T54 l3 x45_2).f1), .int .i64 ((rd_T54 l3 x45_2).f2), .int .i64 ((rd_T54 l3 x45_2).f3), .int .i64 ((rd_T54 l3 x45_2).f4)]] rfl zT2 ?_; (with_reducible refine (impl_Code.calls ((rd_T54 l3 x45_2).f0) ((rd_T54 l3 x45_2).f1) ((rd_T54 l3 x45_2).f2) ((rd_T54 l3 x45_2).f3) ((rd_T54 l3 x45_2).f4) t114 t115 _ A19.out).mono ?_); rintro e w23 ⟨rfl, hb⟩; refine ⟨_, rfl, ?_⟩; have n0_ := Aside0.mk (Kd.R_below (by (with_reducible repeat (first | apply Kd.R_alloc | apply Kd.R_drewN | apply Kd.R_drew)); exact (Kd.R_mono (Kd.R_far (p := ⟨gb113, 4, none⟩) (Kd.R_far (p := ⟨gb113, 3, none⟩) (Kd.R_far (p := ⟨gb113, 2, none⟩) (Kd.R_far (p := ⟨gb113, 1, none⟩) (Kd.R_far (p := ⟨gb113, 0, none⟩) (Kd.R_types HO_11.out BK113.out (by decide)) (fun _ hk => hk.2) (.int .i64 ((rd_T54 l3 x45_2).f0))) (fun _ hk => hk.2) (.int .i64 ((rd_T54 l3 x45_2).f1))) (fun _ hk => hk.2) (.int .i64 ((rd_T54 l3 x45_2).f2))) (fun _ hk => hk.2) (.int .i64 ((rd_T54 l3 x45_2).f3))) (fun _ hk => hk.2) (.int .i64 ((rd_T54 l3 x45_2).f4))) (fun _ h_ => h_.1))) hb); have n1_ := Aside0.mk (blk_below (g := gb113) (o := .cells #[.int .i64 ((rd_T54 l3 x45_2).f0), .int .i64 ((rd_T54 l3 x45_2).f1), .int .i64 ((rd_T54 l3 x45_2).f2), .int .i64 ((rd_T54 l3 x45_2).f3), .int .i64 ((rd_T54 l3 x45_2).f4)] 54 (0, 0)) (by (with_reducible repeat (first | refine blk_drewN ?_ _ | refine blk_drew ?_ | refine blk_alloc ?_ _)); refine blk_put (cs := #[.int .i64 ((rd_T54 l3 x45_2).f0), .int .i64 ((rd_T54 l3 x45_2).f1), .int .i64 ((rd_T54 l3 x45_2).f2), .int .i64 ((rd_T54 l3 x45_2).f3), .int .i64 0]) ?_ 4 _ rfl; (with_reducible repeat (first | refine blk_drewN ?_ _ | refine blk_drew ?_ | refine blk_alloc ?_ _)); refine blk_put (cs := #[.int .i64 ((rd_T54 l3 x45_2).f0), .int .i64 ((rd_T54 l3 x45_2).f1), .int .i64 ((rd_T54 l3 x45_2).f2), .int .i64 0, .int .i64 0]) ?_ 3 _ rfl; (with_reducible repeat (first | refine blk_drewN ?_ _ | refine blk_drew ?_ | refine blk_alloc ?_ _)); refine blk_put (cs := #[.int .i64 ((rd_T54 l3 x45_2).f0), .int .i64 ((rd_T54 l3 x45_2).f1), .int .i64 0, .int .i64 0, .int .i64 0]) ?_ 2 _ rfl; (with_reducible repeat (first | refine blk_drewN ?_ _ | refine blk_drew ?_ | refine blk_alloc ?_ _)); refine blk_put (cs := #[.int .i64 ((rd_T54 l3 x45_2).f0), .int .i64 0, .int .i64 0, .int .i64 0, .int .i64 0]) ?_ 1 _ rfl; (with_reducible repeat (first | refine blk_drewN ?_ _ | refine blk_drew ?_ | refine blk_alloc ?_ _)); refine blk_put (cs := #[.int .i64 0, .int .i64 0, .int .i64 0, .int .i64 0, .int .i64 0]) ?_ 0 _ rfl; (with_reducible repeat (first | refine blk_drewN ?_ _ | refine blk_drew ?_ | refine blk_alloc ?_ _)); exact BK113.out) hb); have n2_ := Aside0.mk (below_step (zB2_3) hb); clear HO_11; clear BK113; clear HB; have HO_11 := n0_; have BK113 := n1_; have HB := n2_; clear n0_ n1_ n2_; (try clear hb); (try clear hb2); (try clear hk); (try clear hi)) | ((with_reducible refine gate_builtin (b := .append) (xs := #[.tmp 54, .tmp 56]) rfl ?_); at_builtin; refine Kd.R_append (Kd.int .i64) (w0 := w) w.heap.size rfl (.tmp 54) (.tmp 56) 25 3 (.int .i64 0) 8 rfl Try.underlying25 info3 rfl (by decide) (by omega) u11 x11_2 t114 [.int .i64 t114] (fun _ => True) (fun _ => False) rfl rfl ?aP (fun _ hk => hk.elim) ?aF ?aO ?aB ?aS ?aL ?_; (case aP => exact rfl); (case aB => exact (zB2_3)); (case aF => exact (fun _ _ => trivial)); (case aO => exact (zR2 HO_11.out)); (case aS => exact (below_size (zB2_3))); (case aL => have := LMc20.out; omega); intro v117 w24 ho hb hg hat; rw [← Ny116.out] at ho; have n0_ := Aside0.mk (blk_grown (g := gb113) (o := .cells #[.int .i64 ((rd_T54 l3 x45_2).f0), .int .i64 ((rd_T54 l3 x45_2).f1), .int .i64 ((rd_T54 l3 x45_2).f2), .int .i64 ((rd_T54 l3 x45_2).f3), .int .i64 ((rd_T54 l3 x45_2).f4)] 54 (0, 0)) (zK2 BK113.out) hg (Kd.R_ne HO_11.out BK113.out (by decide))); have n1_ := Aside0.mk (hb); have n2_ := Aside0.mk (ho); clear BK113; clear HB; clear HO_11; have BK113 := n0_; have HB := n1_; have HO118 := n2_; clear n0_ n1_ n2_; clear ho hb hg hat))
          go_roundg k2
          case measure => have := HJ4.out; have := HK2.out; omega
          case rel => exact ⟨(y116), (wrap64 (x45_2 + 1)), (by first | rfl | (simp; done) | (simp [*]; done)), H', ⟨by have := HJ4.out; have := HK2.out; omega⟩, ⟨zR2 HO118.out⟩, ⟨zB2_3⟩⟩

end Go.Proofs.Ytddncenhddiemaa.PFnCountsAll
