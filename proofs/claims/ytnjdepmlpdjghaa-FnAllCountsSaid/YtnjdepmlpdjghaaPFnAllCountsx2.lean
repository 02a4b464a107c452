-- made by wip/tools/myprint.py out of the seat's translation
import Derived.Test.YtnjdepmlpdjghaaPFnAllCountsx0
import Derived.Test.YtnjdepmlpdjghaaPFnAllCountsx1
namespace Go.Proofs.Ytnjdepmlpdjghaa.PFnAllCounts
open Go.RowKit Go.Proofs.YtnjdepmlpdjghaaW.PrintWords Go.Proofs.YtnjdepmlpdjghaaW.PrintLast Go.Proofs.YtnjdepmlpdjghaaW.PrintMore
attribute [local go_sem] max2_int min2_int max_two min_two max_three min_three max_four min_four   -- for this text's walks alone
set_option linter.unusedVariables false
set_option linter.unusedSimpArgs false
set_option maxHeartbeats 8000000
set_option maxRecDepth 100000

attribute [local go_sem high] eqA59
/-! ### laws_big: function 10 -/
def laws_big.f (l0 : List Int) : Option (Bool) := some (decide ((l0.length : Int) > 1048576))
theorem laws_big.calls (A0 : Option Addr) (c0 : Nat) (l0 : List Int) (r : Bool) (w : World) (hr0 : Kd.C (Kd.int .u8) w A0 l0.length l0) (hc0 : l0.length ≤ c0) (h : laws_big.f l0 = some r) :
    Calls Try.prog 10 #[.slice A0 l0.length c0] w fun e w' => e = .returned (.bool r) ∧ Drawn0 w w' := by
  have HR0 := zM hr0
  have HC0 := zM hc0
  clear hr0 hc0
  unfold laws_big.f at h
  have H := h
  clear h
  obtain rfl := Option.some.inj H
  go_enter Try.func10, Try.ntmps10
  go_wp2
  go_ret
  exact ⟨zJJ, zDD⟩

/-! ### impl_from: function 43 -/
def impl_from.f (a0 : Int) (a1 : Int) (a2 : Int) : Option (Bool) := if a0 ≥ a1 then (some (decide (a0 ≤ a2))) else (some false)
theorem impl_from.calls (a0 : Int) (a1 : Int) (a2 : Int) (r : Bool) (w : World) (h : impl_from.f a0 a1 a2 = some r) :
    Calls Try.prog 43 #[.int .i64 a0, .int .i64 a1, .int .i64 a2] w fun e w' => e = .returned (.bool r) ∧ Drawn0 w w' := by
  unfold impl_from.f at h
  have H := h
  clear h
  by_cases c4 : a0 ≥ a1
  · rw [if_pos c4] at H
    have c4b0 := decide_eq_true c4
    clear c4
    obtain rfl := Option.some.inj H
    go_enter Try.func43, Try.ntmps43
    go_wp2
    go_ret
    exact ⟨zJJ, zDD⟩
  rw [if_neg c4] at H
  have c4b0 := decide_eq_false c4
  clear c4
  obtain rfl := Option.some.inj H
  go_enter Try.func43, Try.ntmps43
  go_wp2
  go_ret
  exact ⟨zJJ, zDD⟩

/-! ### impl_isCell: function 46 -/
def impl_isCell.f (a0 : Int) : Option (Bool) := (impl_from.f a0 0 23).bind fun t101 => (some t101)
theorem impl_isCell.calls (a0 : Int) (r : Bool) (w : World) (h : impl_isCell.f a0 = some r) :
    Calls Try.prog 46 #[.int .i64 a0] w fun e w' => e = .returned (.bool r) ∧ Drawn0 w w' := by
  unfold impl_isCell.f at h
  have H := h
  clear h
  replace H := zO H
  obtain ⟨t101, A2, H⟩ := H
  obtain rfl := Option.some.inj H
  go_enter Try.func46, Try.ntmps46
  go_wp2_with (first | ((with_reducible refine zG Try.func43 4 #[.int .i64 a0, .int .i64 0, .int .i64 23] ?_); (with_reducible refine (impl_from.calls a0 0 23 t101 _ A2.1).mono ?_); rintro e w' ⟨rfl, ⟨nd, rfl⟩⟩; refine ⟨_, rfl, ?_⟩))
  go_ret
  exact ⟨zJJ, zDD⟩

/-! ### impl_form: function 116 -/
mutual
def impl_form.j0 : Nat → Int → Bool → Option (ByteArray × Bool)
  | 0, _, _ => none
  | k + 1, x4, x7 => if x7 = true then (some ((⟨#[82, 65, 66]⟩ : ByteArray), true)) else (if x4 = 3 then (impl_form.j1 k x4 (x4 == 3)) else (impl_form.j1 k x4 (x4 == 4)))
def impl_form.j1 : Nat → Int → Bool → Option (ByteArray × Bool)
  | 0, _, _ => none
  | k + 1, x4, x10 => if x10 = true then (some ((⟨#[82, 65, 78]⟩ : ByteArray), true)) else (if x4 = 5 then (some ((⟨#[65, 66, 78]⟩ : ByteArray), true)) else (if x4 = 6 then (some ((⟨#[82, 65, 66, 78]⟩ : ByteArray), true)) else (if x4 = 7 then (some ((⟨#[65, 78]⟩ : ByteArray), true)) else (if x4 = 8 then (some ((⟨#[78]⟩ : ByteArray), true)) else (if x4 = 9 then (some ((⟨#[]⟩ : ByteArray), true)) else (some ((⟨#[]⟩ : ByteArray), false)))))))
end
def impl_form.f (k : Nat) (a0 : Int) : Option (ByteArray × Bool) := if a0 = 1 then (some ((⟨#[82, 78]⟩ : ByteArray), true)) else (if a0 = 2 then (impl_form.j0 k a0 (a0 == 2)) else (impl_form.j0 k a0 (a0 == 10)))
theorem impl_form.mono_l : ∀ k, (∀ y0 y1, LeO (impl_form.j0 k y0 y1) (impl_form.j0 (k + 1) y0 y1)) ∧ (∀ y0 y1, LeO (impl_form.j1 k y0 y1) (impl_form.j1 (k + 1) y0 y1))
  | 0 => ⟨fun _ _ r h => by simp [impl_form.j0] at h, fun _ _ r h => by simp [impl_form.j1] at h⟩
  | k + 1 => by
    obtain ⟨ih0, ih1⟩ := impl_form.mono_l k
    refine ⟨?_, ?_⟩
    · intro y0 y1
      unfold impl_form.j0
      exact zL
    · intro y0 y1
      unfold impl_form.j1
      exact zL
theorem impl_form.mono : ∀ a0 k, LeO (impl_form.f k a0) (impl_form.f (k + 1) a0) := by
  intro a0 k
  obtain ⟨ih0, ih1⟩ := impl_form.mono_l k
  unfold impl_form.f
  exact zL
theorem impl_form.calls (k : Nat) (a0 : Int) (r1 : ByteArray) (r2 : Bool) (w : World) (h : impl_form.f k a0 = some (r1, r2)) :
    Calls Try.prog 116 #[.int .i64 a0] w fun e w' => e = .returned (.tuple #[.string r1, .bool r2]) ∧ Drawn0 w w' := by
  unfold impl_form.f at h
  have H := h
  clear h
  by_cases c2 : a0 = 1
  · rw [if_pos c2] at H
    have c2b0 : (a0 == 1) = true := beq_iff_eq.mpr c2
    have c2b1 : (a0 != 1) = false := bne_eq_false_iff_eq.mpr c2
    clear c2
    simp only [Option.some.injEq, Prod.mk.injEq] at H
    obtain ⟨rfl, rfl⟩ := H
    go_enter Try.func116, Try.ntmps116
    go_wp2
    go_ret2
    exact ⟨zJJ, zDD⟩
  rw [if_neg c2] at H
  have c2b0 : (a0 == 1) = false := beq_eq_false_iff_ne.mpr c2
  have c2b1 : (a0 != 1) = true := bne_iff_ne.mpr c2
  have HC3 := zM H
  clear H
  go_enter Try.func116, Try.ntmps116
  go_upto_if 7 with (fail)
  go_cut [7] (fun v7 wc => ∃ (kq : Nat) (x7_2 : Bool), v7 = .bool x7_2 ∧ Aside0 (impl_form.j0 kq a0 x7_2 = some (r1, r2)) ∧ Aside0 (kq ≤ k) ∧ Drawn0 w wc)
  case first =>
    have H := HC3.1
    clear HC3
    by_cases c4 : a0 = 2
    rotate_left
    · rw [if_neg c4] at H
      have c4b0 : (a0 == 2) = false := beq_eq_false_iff_ne.mpr c4
      have c4b1 : (a0 != 2) = true := bne_iff_ne.mpr c4
      (first | rw [c4b0] | (simp only [i64_w, i32_w]; rw [c4b0]) | skip)
      have H' := zM H
      clear H
      go_wp2
      go_meet
      case rel => exact ⟨_, ((a0 == 10)), zJJ, H', ⟨by first | omega | exact Nat.le_refl _⟩, zDD⟩
    rw [if_pos c4] at H
    have c4b0 : (a0 == 2) = true := beq_iff_eq.mpr c4
    have c4b1 : (a0 != 2) = false := bne_eq_false_iff_eq.mpr c4
    clear c4
    (first | rw [c4b0] | (simp only [i64_w, i32_w]; rw [c4b0]) | skip)
    have H' := zM H
    clear H
    go_wp2
    go_meet
    case rel => exact ⟨_, ((a0 == 2)), zJJ, H', ⟨by first | omega | exact Nat.le_refl _⟩, zDD⟩
  case rest =>
    clear HC3
    obtain ⟨kq, x7_2, rfl, HA, HJ2, ⟨mc2, rfl⟩⟩ := hcut
    cases kq with
    | zero => exact absurd HA.1 (by simp [impl_form.j0])
    | succ kj2 =>
      have H := HA.1
      clear HA
      simp only [impl_form.j0] at H
      by_cases c5 : x7_2 = true
      · subst c5
        rw [if_pos rfl] at H
        simp only [Option.some.injEq, Prod.mk.injEq] at H
        obtain ⟨rfl, rfl⟩ := H
        go_wp2
        go_ret2
        exact ⟨zJJ, zDD⟩
      replace c5 := Bool.eq_false_iff.mpr c5
      subst c5
      rw [if_neg zF] at H
      have HC6 := zM H
      clear H
      go_upto_if 10 with (fail)
      go_cut [10] (fun v10 wc => ∃ (kq : Nat) (x10_5 : Bool), v10 = .bool x10_5 ∧ Aside0 (impl_form.j1 kq a0 x10_5 = some (r1, r2)) ∧ Aside0 (kq ≤ kj2) ∧ Drawn0 w wc)
      case first =>
        have H := HC6.1
        clear HC6
        by_cases c7 : a0 = 3
        rotate_left
        · rw [if_neg c7] at H
          have c7b0 : (a0 == 3) = false := beq_eq_false_iff_ne.mpr c7
          have c7b1 : (a0 != 3) = true := bne_iff_ne.mpr c7
          (first | rw [c7b0] | (simp only [i64_w, i32_w]; rw [c7b0]) | skip)
          have H' := zM H
          clear H
          go_wp2
          go_meet
          case rel => exact ⟨_, ((a0 == 4)), zJJ, H', ⟨by have := HJ2.1; first | omega | exact Nat.le_refl _⟩, zDD⟩
        rw [if_pos c7] at H
        have c7b0 : (a0 == 3) = true := beq_iff_eq.mpr c7
        have c7b1 : (a0 != 3) = false := bne_eq_false_iff_eq.mpr c7
        clear c7
        (first | rw [c7b0] | (simp only [i64_w, i32_w]; rw [c7b0]) | skip)
        have H' := zM H
        clear H
        go_wp2
        go_meet
        case rel => exact ⟨_, ((a0 == 3)), zJJ, H', ⟨by have := HJ2.1; first | omega | exact Nat.le_refl _⟩, zDD⟩
      case rest =>
        clear HC6
        obtain ⟨kq, x10_5, rfl, HA, HJ5, ⟨mc5, rfl⟩⟩ := hcut
        cases kq with
        | zero => exact absurd HA.1 (by simp [impl_form.j1])
        | succ kj5 =>
          have H := HA.1
          clear HA
          simp only [impl_form.j1] at H
          by_cases c8 : x10_5 = true
          · subst c8
            rw [if_pos rfl] at H
            simp only [Option.some.injEq, Prod.mk.injEq] at H
            obtain ⟨rfl, rfl⟩ := H
            go_wp2
            go_ret2
            exact ⟨zJJ, zDD⟩
          replace c8 := Bool.eq_false_iff.mpr c8
          subst c8
          rw [if_neg zF] at H
          by_cases c9 : a0 = 5
          · rw [if_pos c9] at H
            have c9b0 : (a0 == 5) = true := beq_iff_eq.mpr c9
            have c9b1 : (a0 != 5) = false := bne_eq_false_iff_eq.mpr c9
            clear c9
            simp only [Option.some.injEq, Prod.mk.injEq] at H
            obtain ⟨rfl, rfl⟩ := H
            go_wp2
            go_ret2
            exact ⟨zJJ, zDD⟩
          rw [if_neg c9] at H
          have c9b0 : (a0 == 5) = false := beq_eq_false_iff_ne.mpr c9
          have c9b1 : (a0 != 5) = true := bne_iff_ne.mpr c9
          by_cases c10 : a0 = 6
          · rw [if_pos c10] at H
            have c10b0 : (a0 == 6) = true := beq_iff_eq.mpr c10
            have c10b1 : (a0 != 6) = false := bne_eq_false_iff_eq.mpr c10
            clear c10
            simp only [Option.some.injEq, Prod.mk.injEq] at H
            obtain ⟨rfl, rfl⟩ := H
            go_wp2
            go_ret2
            exact ⟨zJJ, zDD⟩
          rw [if_neg c10] at H
          have c10b0 : (a0 == 6) = false := beq_eq_false_iff_ne.mpr c10
          have c10b1 : (a0 != 6) = true := bne_iff_ne.mpr c10
          by_cases c11 : a0 = 7
          · rw [if_pos c11] at H
            have c11b0 : (a0 == 7) = true := beq_iff_eq.mpr c11
            have c11b1 : (a0 != 7) = false := bne_eq_false_iff_eq.mpr c11
            clear c11
            simp only [Option.some.injEq, Prod.mk.injEq] at H
            obtain ⟨rfl, rfl⟩ := H
            go_wp2
            go_ret2
            exact ⟨zJJ, zDD⟩
          rw [if_neg c11] at H
          have c11b0 : (a0 == 7) = false := beq_eq_false_iff_ne.mpr c11
          have c11b1 : (a0 != 7) = true := bne_iff_ne.mpr c11
          by_cases c12 : a0 = 8
          · rw [if_pos c12] at H
            have c12b0 : (a0 == 8) = true := beq_iff_eq.mpr c12
            have c12b1 : (a0 != 8) = false := bne_eq_false_iff_eq.mpr c12
            clear c12
            simp only [Option.some.injEq, Prod.mk.injEq] at H
            obtain ⟨rfl, rfl⟩ := H
            go_wp2
            go_ret2
            exact ⟨zJJ, zDD⟩
          rw [if_neg c12] at H
          have c12b0 : (a0 == 8) = false := beq_eq_false_iff_ne.mpr c12
          have c12b1 : (a0 != 8) = true := bne_iff_ne.mpr c12
          by_cases c13 : a0 = 9
          rotate_left
          · rw [if_neg c13] at H
            have c13b0 : (a0 == 9) = false := beq_eq_false_iff_ne.mpr c13
            have c13b1 : (a0 != 9) = true := bne_iff_ne.mpr c13
            simp only [Option.some.injEq, Prod.mk.injEq] at H
            obtain ⟨rfl, rfl⟩ := H
            go_wp2
            go_ret2
            exact ⟨zJJ, zDD⟩
          rw [if_pos c13] at H
          have c13b0 : (a0 == 9) = true := beq_iff_eq.mpr c13
          have c13b1 : (a0 != 9) = false := bne_eq_false_iff_eq.mpr c13
          clear c13
          simp only [Option.some.injEq, Prod.mk.injEq] at H
          obtain ⟨rfl, rfl⟩ := H
          go_wp2
          go_ret2
          exact ⟨zJJ, zDD⟩

-- NOT PRINTED: function 117 (impl_Ins_place)

/-! ### impl_InsOk: function 91 -/
def placeOff (c : Int) : Nat := if c = 82 then 1 else if c = 65 then 2 else if c = 66 then 3 else 4
theorem place_calls (g : Nat) (c : Int) (w : World) :
    Calls Try.prog 117 #[.pointer (some ⟨g, 0, none⟩), .int .u8 c] w fun e w' => e = .returned (.pointer (some ⟨g, placeOff c, none⟩)) ∧ w' = w := by
  by_cases c1 : c = 82
  · have e1 : (c == 82) = true := beq_iff_eq.mpr c1
    have ho : placeOff c = 1 := by simp [placeOff, c1]
    have Ho := zM ho
    clear c1 ho
    go_enter Try.func117, Try.ntmps117
    go_wp2
    go_ret
    exact ⟨congrArg (fun o => Ending.returned (Value.pointer (some ⟨g, o, none⟩))) Ho.out.symm, rfl⟩
  have e1 : (c == 82) = false := beq_eq_false_iff_ne.mpr c1
  by_cases c2 : c = 65
  · have e2 : (c == 65) = true := beq_iff_eq.mpr c2
    have ho : placeOff c = 2 := by simp [placeOff, c2]
    have Ho := zM ho
    clear c1 c2 ho
    go_enter Try.func117, Try.ntmps117
    go_wp2
    go_ret
    exact ⟨congrArg (fun o => Ending.returned (Value.pointer (some ⟨g, o, none⟩))) Ho.out.symm, rfl⟩
  have e2 : (c == 65) = false := beq_eq_false_iff_ne.mpr c2
  by_cases c3 : c = 66
  · have e3 : (c == 66) = true := beq_iff_eq.mpr c3
    have ho : placeOff c = 3 := by simp [placeOff, c3]
    have Ho := zM ho
    clear c1 c2 c3 ho
    go_enter Try.func117, Try.ntmps117
    go_wp2
    go_ret
    exact ⟨congrArg (fun o => Ending.returned (Value.pointer (some ⟨g, o, none⟩))) Ho.out.symm, rfl⟩
  have e3 : (c == 66) = false := beq_eq_false_iff_ne.mpr c3
  have ho : placeOff c = 4 := by simp [placeOff, c1, c2, c3]
  have Ho := zM ho
  clear c1 c2 c3 ho
  go_enter Try.func117, Try.ntmps117
  go_wp2
  go_ret
  exact ⟨congrArg (fun o => Ending.returned (Value.pointer (some ⟨g, o, none⟩))) Ho.out.symm, rfl⟩

/-- The five numbers, one of them put. -/
def insPut (c : Int) (x s : Int × Int × Int × Int × Int) : Int × Int × Int × Int × Int :=
  if c = 82 then (s.1, x.2.1, s.2.2.1, s.2.2.2.1, s.2.2.2.2) else if c = 65 then (s.1, s.2.1, x.2.2.1, s.2.2.2.1, s.2.2.2.2) else if c = 66 then (s.1, s.2.1, s.2.2.1, x.2.2.2.1, s.2.2.2.2) else (s.1, s.2.1, s.2.2.1, s.2.2.2.1, x.2.2.2.2)
def insCells (s : Int × Int × Int × Int × Int) : Array Value := #[.int .i64 s.1, .int .i64 s.2.1, .int .i64 s.2.2.1, .int .i64 s.2.2.2.1, .int .i64 s.2.2.2.2]
def insPick (x : Int × Int × Int × Int × Int) (c : Int) : Int := if c = 82 then x.2.1 else if c = 65 then x.2.2.1 else if c = 66 then x.2.2.2.1 else x.2.2.2.2
theorem insCells_get (x : Int × Int × Int × Int × Int) (c : Int) : (insCells x)[placeOff c]? = some (.int .i64 (insPick x c)) := by
  unfold insCells placeOff insPick; split <;> (try split) <;> (try split) <;> rfl
theorem insCells_put (x s : Int × Int × Int × Int × Int) (c : Int) : (insCells s).setIfInBounds (placeOff c) (.int .i64 (insPick x c)) = insCells (insPut c x s) := by
  unfold insCells placeOff insPick insPut; split <;> (try split) <;> (try split) <;> rfl
def insFold (s : ByteArray) (x : Int × Int × Int × Int × Int) (n : Nat) : Int × Int × Int × Int × Int := (List.range n).foldl (fun a (i : Nat) => insPut (bt s (i : Int)) x a) (x.1, 0, 0, 0, 0)

theorem insFold_succ (s : ByteArray) (x : Int × Int × Int × Int × Int) (n : Nat) : insFold s x (n + 1) = insPut (bt s (n : Int)) x (insFold s x n) := by
  unfold insFold; rw [List.range_succ, List.foldl_append]; rfl
theorem insOk_calls (k : Nat) (x0 x1 x2 x3 x4 : Int) (s : ByteArray) (ok : Bool) (w : World) (hs : s.size ≤ 4) (hf : impl_form.f k x0 = some (s, ok)) (y0 y1 y2 y3 y4 : Int) (hy : insFold s (x0, x1, x2, x3, x4) s.size = (y0, y1, y2, y3, y4)) (b1 b2 b3 b4 : Bool) (h1 : impl_from.f x1 0 3 = some b1) (h2 : impl_from.f x2 0 3 = some b2) (h3 : impl_from.f x3 0 3 = some b3) (h4 : impl_from.f x4 0 63 = some b4) :
    Calls Try.prog 91 #[.agg #[.int .i64 x0, .int .i64 x1, .int .i64 x2, .int .i64 x3, .int .i64 x4]] w fun e w' => e = .returned (.bool (ok && ((y0 == x0 && (y1 == x1 && (y2 == x2 && (y3 == x3 && (y4 == x4))))) && (b1 && (b2 && (b3 && b4)))))) ∧ Below w.heap.size w w' := by
  have hu59 := Try.underlying58
  have HF := zM hf
  have HY := zM hy
  have F1 := zM h1
  have F2 := zM h2
  have F3 := zM h3
  have F4 := zM h4
  clear hf hy h1 h2 h3 h4
  have HB := zM (Below.refl w.heap.size w)
  go_enter Try.func91, Try.ntmps91
  go_wp2_with (first
    | ((with_reducible refine zBx 1 59 #[.int .i64 x0, .int .i64 x1, .int .i64 x2, .int .i64 x3, .int .i64 x4] ?_); intro g1 hg w1 hbox hb; have BK1 := zM hbox; have HB1 := zM (below_step HB.1 hb); have GE1 := zM (by rw [hg]; exact Nat.le_refl _ : w.heap.size ≤ g1); clear hb hbox hg; have hcz0 : w1.cell? ⟨g1, 0, none⟩ = some (.int .i64 x0) := (blk_cell BK1.1 0).trans rfl)
    | ((with_reducible refine zBx 5 59 #[.int .i64 0, .int .i64 0, .int .i64 0, .int .i64 0, .int .i64 0] ?_); intro g2 hg w2 hbox hb; have hne := zM (by rw [hg]; exact Nat.ne_of_lt (blk_lt (blk_drewN BK1.1 _)) : g1 ≠ g2); have BK2 := zM hbox; have HB2 := zM (below_step zB0 hb); have BK1' := zM (blk_below (zJ BK1.1) hb); have GE2 := zM (by rw [hg]; exact below_size zB0 : w.heap.size ≤ g2); clear hb hbox hg BK1 HB1 HB; have hcy0 := (blk_cell BK2.1 0).trans rfl; have hcy1 := (blk_cell BK2.1 1).trans rfl; have hcy2 := (blk_cell BK2.1 2).trans rfl; have hcy3 := (blk_cell BK2.1 3).trans rfl; have hcy4 := (blk_cell BK2.1 4).trans rfl; have hfy0 := blk_frozen BK2.1 0; have hfy1 := blk_frozen BK2.1 1; have hfy2 := blk_frozen BK2.1 2; have hfy3 := blk_frozen BK2.1 3; have hfy4 := blk_frozen BK2.1 4)
    | (go_at_call 116; refine (impl_form.calls k x0 s ok _ HF.out).mono ?_; rintro e w' ⟨rfl, ⟨nd, rfl⟩⟩))
  clear hcz0 hcy0 hcy1 hcy2 hcy3 hcy4 hfy0 hfy1 hfy2 hfy3 hfy4
  go_loopw [18] (fun v wr => ∃ i : Nat, Aside0 (i ≤ s.size) ∧ v = .int .i64 i ∧ Aside0 (wr.heap[g1]? = some (.cells (insCells (x0, x1, x2, x3, x4)) 59 (0, 0))) ∧ Aside0 (wr.heap[g2]? = some (.cells (insCells (insFold s (x0, x1, x2, x3, x4) i)) 59 (0, 0))) ∧ Aside0 (Below w.heap.size w wr)) (fun v _ => s.size - (intOf v).toNat)
  case atStart =>
    refine ⟨0, ⟨Nat.zero_le _⟩, rfl, ⟨?_⟩, ⟨?_⟩, ⟨?_⟩⟩
    · refine blk_far (blk_far (blk_far (blk_far (blk_far BK1'.out ?_ _) ?_ _) ?_ _) ?_ _) ?_ _ <;> exact hne.out
    · exact blk_set (blk_set (blk_set (blk_set (blk_set BK2.1 0 _) 1 _) 2 _) 3 _) 4 _
    · exact below_set (below_set (below_set (below_set (below_set HB2.1 GE2.1) GE2.1) GE2.1) GE2.1) GE2.1
  case round =>
    obtain ⟨i, hi, rfl, BK1, BK2, HB⟩ := hrel
    by_cases hlt : i < s.size
    · have hbt : bt s (i : Int) = ((s[i].toNat : Nat) : Int) := (bt_at s (i : Int) (by simpa using hlt)).symm
      have HBT := zM hbt
      clear hbt
      have hld : wr.cell? ⟨g1, placeOff ((s[i].toNat : Nat) : Int), none⟩ = some (.int .i64 (insPick (x0, x1, x2, x3, x4) ((s[i].toNat : Nat) : Int))) := (blk_cell BK1.1 _).trans (insCells_get _ _)
      have hst : wr.cell? ⟨g2, placeOff ((s[i].toNat : Nat) : Int), none⟩ = some (.int .i64 (insPick (insFold s (x0, x1, x2, x3, x4) i) ((s[i].toNat : Nat) : Int))) := (blk_cell BK2.1 _).trans (insCells_get _ _)
      have hfz := blk_frozen BK2.1 (placeOff ((s[i].toNat : Nat) : Int))
      have H1 := zM hst
      have H2 := zM hfz
      clear hst hfz
      go_wp2_with fail
      go_still_tail 11, (by kernel_rfl)
      still_call (place_calls _ _ _)
      repeat still_step
      still_call (place_calls _ _ _)
      repeat still_step
      refine wpStill_nil ?_
      change wpList _ _ _ _ _ wr.drew
      have hst := H1.out
      have hfz := H2.out
      go_wp2
      go_roundw
      case rel =>
        refine ⟨i + 1, ⟨hlt⟩, by go_num, ⟨?_⟩, ⟨?_⟩, ⟨?_⟩⟩
        · exact blk_far (blk_drew BK1.1) hne.out _
        · rw [insFold_succ, HBT.out, ← insCells_put]; exact blk_set (blk_drew BK2.1) _ _
        · exact below_set (below_drew1 HB.1) GE2.1
      case measure => simp [intOf]; omega
    have HN := zM hlt
    have hi' : i = s.size := by have := hi.out; omega
    subst hi'
    have BK2' : wr.heap[g2]? = some (.cells #[.int .i64 y0, .int .i64 y1, .int .i64 y2, .int .i64 y3, .int .i64 y4] 59 (0, 0)) := by have h_ := BK2.1; rw [HY.out] at h_; exact h_
    clear BK2
    have hcx0 : wr.cell? ⟨g1, 0, none⟩ = some (.int .i64 x0) := (blk_cell BK1.1 0).trans rfl
    have hcx1 : wr.cell? ⟨g1, 1, none⟩ = some (.int .i64 x1) := (blk_cell BK1.1 1).trans rfl
    have hcx2 : wr.cell? ⟨g1, 2, none⟩ = some (.int .i64 x2) := (blk_cell BK1.1 2).trans rfl
    have hcx3 : wr.cell? ⟨g1, 3, none⟩ = some (.int .i64 x3) := (blk_cell BK1.1 3).trans rfl
    have hcx4 : wr.cell? ⟨g1, 4, none⟩ = some (.int .i64 x4) := (blk_cell BK1.1 4).trans rfl
    have hcy0 : wr.cell? ⟨g2, 0, none⟩ = some (.int .i64 y0) := (blk_cell BK2' 0).trans rfl
    have hcy1 : wr.cell? ⟨g2, 1, none⟩ = some (.int .i64 y1) := (blk_cell BK2' 1).trans rfl
    have hcy2 : wr.cell? ⟨g2, 2, none⟩ = some (.int .i64 y2) := (blk_cell BK2' 2).trans rfl
    have hcy3 : wr.cell? ⟨g2, 3, none⟩ = some (.int .i64 y3) := (blk_cell BK2' 3).trans rfl
    have hcy4 : wr.cell? ⟨g2, 4, none⟩ = some (.int .i64 y4) := (blk_cell BK2' 4).trans rfl
    clear BK1 BK2'
    cases ok
    · go_wp2_with (first | (go_at_call 43; with_reducible refine (impl_from.calls x1 0 3 _ _ F1.out).mono ?_; rintro e w' ⟨rfl, ⟨nd, rfl⟩⟩) | (go_at_call 43; with_reducible refine (impl_from.calls x2 0 3 _ _ F2.out).mono ?_; rintro e w' ⟨rfl, ⟨nd, rfl⟩⟩) | (go_at_call 43; with_reducible refine (impl_from.calls x3 0 3 _ _ F3.out).mono ?_; rintro e w' ⟨rfl, ⟨nd, rfl⟩⟩) | (go_at_call 43; with_reducible refine (impl_from.calls x4 0 63 _ _ F4.out).mono ?_; rintro e w' ⟨rfl, ⟨nd, rfl⟩⟩))
      go_ret
      exact ⟨rfl, by repeat (first | exact HB.1 | apply pw_below_drewN | apply below_drew1)⟩
    generalize hE : (y0 == x0 && (y1 == x1 && (y2 == x2 && (y3 == x3 && (y4 == x4))))) = E
    cases E
    · go_wp2_with (first | (go_at_call 43; with_reducible refine (impl_from.calls x1 0 3 _ _ F1.out).mono ?_; rintro e w' ⟨rfl, ⟨nd, rfl⟩⟩) | (go_at_call 43; with_reducible refine (impl_from.calls x2 0 3 _ _ F2.out).mono ?_; rintro e w' ⟨rfl, ⟨nd, rfl⟩⟩) | (go_at_call 43; with_reducible refine (impl_from.calls x3 0 3 _ _ F3.out).mono ?_; rintro e w' ⟨rfl, ⟨nd, rfl⟩⟩) | (go_at_call 43; with_reducible refine (impl_from.calls x4 0 63 _ _ F4.out).mono ?_; rintro e w' ⟨rfl, ⟨nd, rfl⟩⟩))
      go_ret
      exact ⟨by rw [hE]; rfl, by repeat (first | exact HB.1 | apply pw_below_drewN | apply below_drew1)⟩
    cases b1
    · go_wp2_with (first | (go_at_call 43; with_reducible refine (impl_from.calls x1 0 3 _ _ F1.out).mono ?_; rintro e w' ⟨rfl, ⟨nd, rfl⟩⟩) | (go_at_call 43; with_reducible refine (impl_from.calls x2 0 3 _ _ F2.out).mono ?_; rintro e w' ⟨rfl, ⟨nd, rfl⟩⟩) | (go_at_call 43; with_reducible refine (impl_from.calls x3 0 3 _ _ F3.out).mono ?_; rintro e w' ⟨rfl, ⟨nd, rfl⟩⟩) | (go_at_call 43; with_reducible refine (impl_from.calls x4 0 63 _ _ F4.out).mono ?_; rintro e w' ⟨rfl, ⟨nd, rfl⟩⟩))
      go_ret
      exact ⟨by rw [hE]; rfl, by repeat (first | exact HB.1 | apply pw_below_drewN | apply below_drew1)⟩
    cases b2
    · go_wp2_with (first | (go_at_call 43; with_reducible refine (impl_from.calls x1 0 3 _ _ F1.out).mono ?_; rintro e w' ⟨rfl, ⟨nd, rfl⟩⟩) | (go_at_call 43; with_reducible refine (impl_from.calls x2 0 3 _ _ F2.out).mono ?_; rintro e w' ⟨rfl, ⟨nd, rfl⟩⟩) | (go_at_call 43; with_reducible refine (impl_from.calls x3 0 3 _ _ F3.out).mono ?_; rintro e w' ⟨rfl, ⟨nd, rfl⟩⟩) | (go_at_call 43; with_reducible refine (impl_from.calls x4 0 63 _ _ F4.out).mono ?_; rintro e w' ⟨rfl, ⟨nd, rfl⟩⟩))
      go_ret
      exact ⟨by rw [hE]; rfl, by repeat (first | exact HB.1 | apply pw_below_drewN | apply below_drew1)⟩
    cases b3
    · go_wp2_with (first | (go_at_call 43; with_reducible refine (impl_from.calls x1 0 3 _ _ F1.out).mono ?_; rintro e w' ⟨rfl, ⟨nd, rfl⟩⟩) | (go_at_call 43; with_reducible refine (impl_from.calls x2 0 3 _ _ F2.out).mono ?_; rintro e w' ⟨rfl, ⟨nd, rfl⟩⟩) | (go_at_call 43; with_reducible refine (impl_from.calls x3 0 3 _ _ F3.out).mono ?_; rintro e w' ⟨rfl, ⟨nd, rfl⟩⟩) | (go_at_call 43; with_reducible refine (impl_from.calls x4 0 63 _ _ F4.out).mono ?_; rintro e w' ⟨rfl, ⟨nd, rfl⟩⟩))
      go_ret
      exact ⟨by rw [hE]; rfl, by repeat (first | exact HB.1 | apply pw_below_drewN | apply below_drew1)⟩
    go_wp2_with (first | (go_at_call 43; with_reducible refine (impl_from.calls x1 0 3 _ _ F1.out).mono ?_; rintro e w' ⟨rfl, ⟨nd, rfl⟩⟩) | (go_at_call 43; with_reducible refine (impl_from.calls x2 0 3 _ _ F2.out).mono ?_; rintro e w' ⟨rfl, ⟨nd, rfl⟩⟩) | (go_at_call 43; with_reducible refine (impl_from.calls x3 0 3 _ _ F3.out).mono ?_; rintro e w' ⟨rfl, ⟨nd, rfl⟩⟩) | (go_at_call 43; with_reducible refine (impl_from.calls x4 0 63 _ _ F4.out).mono ?_; rintro e w' ⟨rfl, ⟨nd, rfl⟩⟩))
    go_ret
    exact ⟨by rw [hE]; rfl, by repeat (first | exact HB.1 | apply pw_below_drewN | apply below_drew1)⟩
/-- Is it an Ins: what an Op does not have is 0; the others in range. -/
def insOkB (o r a b n : Int) : Bool :=
  (if o = 1 then decide (a = 0) && decide (b = 0) else if o = 2 then decide (n = 0) else if o = 3 then decide (b = 0) else if o = 4 then decide (b = 0) else if o = 5 then decide (r = 0) else if o = 6 then true
   else if o = 7 then decide (r = 0) && decide (b = 0) else if o = 8 then decide (r = 0) && (decide (a = 0) && decide (b = 0)) else if o = 9 then decide (r = 0) && (decide (a = 0) && (decide (b = 0) && decide (n = 0))) else if o = 10 then decide (n = 0) else false)
  && (decide (0 ≤ r ∧ r ≤ 3) && (decide (0 ≤ a ∧ a ≤ 3) && (decide (0 ≤ b ∧ b ≤ 3) && decide (0 ≤ n ∧ n ≤ 63))))
def impl_InsOk.f (a0_0 a0_1 a0_2 a0_3 a0_4 : Int) : Option Bool := some (insOkB a0_0 a0_1 a0_2 a0_3 a0_4)
theorem insFrom (x lo hi : Int) : impl_from.f x lo hi = some (decide (lo ≤ x ∧ x ≤ hi)) := by
  unfold impl_from.f
  by_cases h : x ≥ lo
  · rw [if_pos h]; have h' : lo ≤ x := h; simp [h']
  rw [if_neg h]; have h' : ¬ lo ≤ x := h; simp [h']
theorem insBeq (x y : Int) : (x == y) = decide (y = x) := by
  by_cases h : x = y
  · subst h; simp
  have h' : ¬ y = x := fun e => h e.symm
  simp [h, h']
theorem insForm (x0 x1 x2 x3 x4 : Int) : ∃ (s : ByteArray) (ok : Bool) (y0 y1 y2 y3 y4 : Int), s.size ≤ 4 ∧ impl_form.f 3 x0 = some (s, ok) ∧ insFold s (x0, x1, x2, x3, x4) s.size = (y0, y1, y2, y3, y4) ∧
    (ok && ((y0 == x0 && (y1 == x1 && (y2 == x2 && (y3 == x3 && (y4 == x4))))) && (decide (0 ≤ x1 ∧ x1 ≤ 3) && (decide (0 ≤ x2 ∧ x2 ≤ 3) && (decide (0 ≤ x3 ∧ x3 ≤ 3) && decide (0 ≤ x4 ∧ x4 ≤ 63)))))) = insOkB x0 x1 x2 x3 x4 := by
  by_cases h1 : x0 = 1
  · subst h1; exact ⟨⟨#[82, 78]⟩, true, 1, x1, 0, 0, x4, by decide, rfl, rfl, by simp [insOkB, insBeq, Bool.and_assoc]⟩
  by_cases h2 : x0 = 2
  · subst h2; exact ⟨⟨#[82, 65, 66]⟩, true, 2, x1, x2, x3, 0, by decide, rfl, rfl, by simp [insOkB, insBeq, Bool.and_assoc]⟩
  by_cases h3 : x0 = 3
  · subst h3; exact ⟨⟨#[82, 65, 78]⟩, true, 3, x1, x2, 0, x4, by decide, rfl, rfl, by simp [insOkB, insBeq, Bool.and_assoc]⟩
  by_cases h4 : x0 = 4
  · subst h4; exact ⟨⟨#[82, 65, 78]⟩, true, 4, x1, x2, 0, x4, by decide, rfl, rfl, by simp [insOkB, insBeq, Bool.and_assoc]⟩
  by_cases h5 : x0 = 5
  · subst h5; exact ⟨⟨#[65, 66, 78]⟩, true, 5, 0, x2, x3, x4, by decide, rfl, rfl, by simp [insOkB, insBeq, Bool.and_assoc]⟩
  by_cases h6 : x0 = 6
  · subst h6; exact ⟨⟨#[82, 65, 66, 78]⟩, true, 6, x1, x2, x3, x4, by decide, rfl, rfl, by simp [insOkB, insBeq, Bool.and_assoc]⟩
  by_cases h7 : x0 = 7
  · subst h7; exact ⟨⟨#[65, 78]⟩, true, 7, 0, x2, 0, x4, by decide, rfl, rfl, by simp [insOkB, insBeq, Bool.and_assoc]⟩
  by_cases h8 : x0 = 8
  · subst h8; exact ⟨⟨#[78]⟩, true, 8, 0, 0, 0, x4, by decide, rfl, rfl, by simp [insOkB, insBeq, Bool.and_assoc]⟩
  by_cases h9 : x0 = 9
  · subst h9; exact ⟨⟨#[]⟩, true, 9, 0, 0, 0, 0, by decide, rfl, rfl, by simp [insOkB, insBeq, Bool.and_assoc]⟩
  by_cases h10 : x0 = 10
  · subst h10; exact ⟨⟨#[82, 65, 66]⟩, true, 10, x1, x2, x3, 0, by decide, rfl, rfl, by simp [insOkB, insBeq, Bool.and_assoc]⟩
  exact ⟨⟨#[]⟩, false, x0, 0, 0, 0, 0, by decide, by simp [impl_form.f, impl_form.j0, impl_form.j1, h1, h2, h3, h4, h5, h6, h7, h8, h9, h10], rfl, by simp [insOkB, h1, h2, h3, h4, h5, h6, h7, h8, h9, h10]⟩
theorem impl_InsOk.calls (a0_0 : Int) (a0_1 : Int) (a0_2 : Int) (a0_3 : Int) (a0_4 : Int) (r : Bool) (w : World) (h : impl_InsOk.f a0_0 a0_1 a0_2 a0_3 a0_4 = some r) :
    Calls Try.prog 91 #[.agg #[.int .i64 a0_0, .int .i64 a0_1, .int .i64 a0_2, .int .i64 a0_3, .int .i64 a0_4]] w fun e w' => e = .returned (.bool r) ∧ Below w.heap.size w w' := by
  obtain ⟨s, ok, y0, y1, y2, y3, y4, hs, hf, hy, hb⟩ := insForm a0_0 a0_1 a0_2 a0_3 a0_4
  obtain rfl := Option.some.inj h
  rw [← hb]
  exact insOk_calls 3 _ _ _ _ _ s ok w hs hf y0 y1 y2 y3 y4 hy _ _ _ _ (insFrom _ _ _) (insFrom _ _ _) (insFrom _ _ _) (insFrom _ _ _)

/-! ### impl_Code: function 69 -/
def impl_Code.f (a0_0 : Int) (a0_1 : Int) (a0_2 : Int) (a0_3 : Int) (a0_4 : Int) : Option (Int × Bool) := (impl_InsOk.f a0_0 a0_1 a0_2 a0_3 a0_4).bind fun t103 => (if t103 = true then (some (wrap64 ((wrap64 ((wrap64 ((wrap64 (a0_0 + (wrap64 (16 * a0_1)))) + (wrap64 (64 * a0_2)))) + (wrap64 (256 * a0_3)))) + (wrap64 (1024 * a0_4))), true)) else (some (0, false)))
theorem impl_Code.calls (a0_0 : Int) (a0_1 : Int) (a0_2 : Int) (a0_3 : Int) (a0_4 : Int) (r1 : Int) (r2 : Bool) (w : World) (h : impl_Code.f a0_0 a0_1 a0_2 a0_3 a0_4 = some (r1, r2)) :
    Calls Try.prog 69 #[.agg #[.int .i64 a0_0, .int .i64 a0_1, .int .i64 a0_2, .int .i64 a0_3, .int .i64 a0_4]] w fun e w' => e = .returned (.tuple #[.int .i64 r1, .bool r2]) ∧ Below w.heap.size w w' := by
  have hu59 := Try.underlying59
  have HB := zM (Below.refl w.heap.size w)
  unfold impl_Code.f at h
  have H := h
  clear h
  replace H := zO H
  obtain ⟨t103, A2, H⟩ := H
  by_cases c3 : t103 = true
  rotate_left
  · replace c3 := Bool.eq_false_iff.mpr c3
    subst c3
    rw [if_neg zF] at H
    simp only [Option.some.injEq, Prod.mk.injEq] at H
    obtain ⟨rfl, rfl⟩ := H
    go_enter Try.func69, Try.ntmps69
    go_wp2_with (first | ((with_reducible refine zBx 1 59 #[.int .i64 a0_0, .int .i64 a0_1, .int .i64 a0_2, .int .i64 a0_3, .int .i64 a0_4] ?_); intro gb102 hg w8 hbox hb; have BK102 := zM hbox; have GW102 := zM (zW hg (below_size zB1)); have GE102 := zM (zW hg (below_size zB1)); replace HB := zM (below_step zB1 hb); clear hb hbox hg; have hcz9 := zc_5 (w := w8) BK102.1) | ((with_reducible refine zG Try.func91 5 #[.agg #[.int .i64 a0_0, .int .i64 a0_1, .int .i64 a0_2, .int .i64 a0_3, .int .i64 a0_4]] ?_); (with_reducible refine (impl_InsOk.calls a0_0 a0_1 a0_2 a0_3 a0_4 false _ A2.1).mono ?_); rintro e w10 ⟨rfl, hb⟩; refine ⟨_, rfl, ?_⟩; replace BK102 := zM (zb BK102.1 hb); replace HB := zM (below_step zB1 hb); clear hb))
    go_ret2
    exact ⟨zE, zB1⟩
  subst c3
  rw [if_pos rfl] at H
  simp only [Option.some.injEq, Prod.mk.injEq] at H
  obtain ⟨rfl, rfl⟩ := H
  go_enter Try.func69, Try.ntmps69
  go_wp2_with (first | ((with_reducible refine zBx 1 59 #[.int .i64 a0_0, .int .i64 a0_1, .int .i64 a0_2, .int .i64 a0_3, .int .i64 a0_4] ?_); intro gb102 hg w4 hbox hb; have BK102 := zM hbox; have GW102 := zM (zW hg (below_size zB1)); have GE102 := zM (zW hg (below_size zB1)); replace HB := zM (below_step zB1 hb); clear hb hbox hg; have hcz5 := zc_5 (w := w4) BK102.1) | ((with_reducible refine zG Try.func91 5 #[.agg #[.int .i64 a0_0, .int .i64 a0_1, .int .i64 a0_2, .int .i64 a0_3, .int .i64 a0_4]] ?_); (with_reducible refine (impl_InsOk.calls a0_0 a0_1 a0_2 a0_3 a0_4 true _ A2.1).mono ?_); rintro e w6 ⟨rfl, hb⟩; refine ⟨_, rfl, ?_⟩; replace BK102 := zM (zb BK102.1 hb); replace HB := zM (below_step zB1 hb); clear hb; have hcz7 := zc_5 (w := w6) BK102.1))
  go_ret2
  exact ⟨zE, zB1⟩

/-! ### impl_coded: function 40 -/
mutual
def impl_coded.j0 : Nat → List (S59) → Bool → Option (List Int × Bool)
  | 0, _, _ => none
  | k + 1, x3, x41 => if x41 = true then (some (([] : List Int), false)) else (impl_coded.l0 k (([] : List Int)) x3 (x3.length : Int) 0)
def impl_coded.l0 : Nat → List Int → List (S59) → Int → Int → Option (List Int × Bool)
  | 0, _, _, _, _ => none
  | k + 1, x11, x43, x44, x45 => if x45 < x44 then (if 0 ≤ x45 then (if x45 < (x43.length : Int) then ((impl_Code.f ((rd_T59 x43 x45).f0) ((rd_T59 x43 x45).f1) ((rd_T59 x43 x45).f2) ((rd_T59 x43 x45).f3) ((rd_T59 x43 x45).f4)).bind fun bt113 => (if x11.length < 17592186044416 then (impl_coded.l0 k (x11 ++ [bt113.1]) x43 x44 (wrap64 (x45 + 1))) else (none))) else (none)) else (none)) else (some (x11, true))
end
def impl_coded.f (k : Nat) (a0 : Int) (a1 : Int) (a2 : Int) (l3 : List (S59)) : Option (List Int × Bool) := (impl_isCell.f a0).bind fun t104 => (if t104 = true then ((impl_from.f a1 1 63).bind fun t105 => (if t105 = true then ((impl_from.f a2 0 (wrap64 (24 - (l3.length : Int)))).bind fun t106 => (if t106 = true then ((impl_from.f a0 a2 (wrap64 ((wrap64 (a2 + (l3.length : Int))) - 1))).bind fun t107 => (impl_coded.j0 k l3 t107)) else (impl_coded.j0 k l3 true))) else (impl_coded.j0 k l3 true))) else (impl_coded.j0 k l3 true))
theorem impl_coded.mono_l : ∀ k, (∀ y0 y1, LeO (impl_coded.j0 k y0 y1) (impl_coded.j0 (k + 1) y0 y1)) ∧ (∀ y0 y1 y2 y3, LeO (impl_coded.l0 k y0 y1 y2 y3) (impl_coded.l0 (k + 1) y0 y1 y2 y3))
  | 0 => ⟨fun _ _ r h => by simp [impl_coded.j0] at h, fun _ _ _ _ r h => by simp [impl_coded.l0] at h⟩
  | k + 1 => by
    obtain ⟨ih0, ih1⟩ := impl_coded.mono_l k
    refine ⟨?_, ?_⟩
    · intro y0 y1
      unfold impl_coded.j0
      exact zL
    · intro y0 y1 y2 y3
      unfold impl_coded.l0
      exact zL
theorem impl_coded.mono : ∀ a0 a1 a2 a3 k, LeO (impl_coded.f k a0 a1 a2 a3) (impl_coded.f (k + 1) a0 a1 a2 a3) := by
  intro a0 a1 a2 a3 k
  obtain ⟨ih0, ih1⟩ := impl_coded.mono_l k
  unfold impl_coded.f
  exact zL
theorem impl_coded.calls (k : Nat) (a0 : Int) (a1 : Int) (a2 : Int) (A3 : Option Addr) (c3 : Nat) (l3 : List (S59)) (r1 : List Int) (r2 : Bool) (w : World) (hr3 : Kd.C k59 w A3 l3.length l3) (hc3 : l3.length ≤ c3) (h : impl_coded.f k a0 a1 a2 l3 = some (r1, r2)) :
    Calls Try.prog 40 #[.int .i64 a0, .int .i64 a1, .int .i64 a2, .slice A3 l3.length c3] w fun e w' => ∃ v0_ : Value, e = .returned (.tuple #[v0_, .bool r2]) ∧ Kd.R (Kd.int .i64) 3 w' w.heap.size (fun _ => True) v0_ r1 ∧ Below w.heap.size w w' := by
  have hu59 := Try.underlying59
  have HR3 := zM hr3
  have HC3 := zM hc3
  clear hr3 hc3
  have HB := zM (Below.refl w.heap.size w)
  unfold impl_coded.f at h
  have H := h
  clear h
  have HC5 := zM H
  clear H
  go_enter Try.func40, Try.ntmps40
  go_upto_region 2 with (fail)
  go_cut [41] (fun v41 wc => ∃ (kq : Nat) (x41_4 : Bool), v41 = .bool x41_4 ∧ Aside0 (impl_coded.j0 kq l3 x41_4 = some (r1, r2)) ∧ Aside0 (kq ≤ k) ∧ Aside0 (Below w.heap.size w wc))
  case first =>
    have H := HC5.1
    clear HC5
    replace H := zO H
    obtain ⟨t104, A6, H⟩ := H
    by_cases c7 : t104 = true
    rotate_left
    · replace c7 := Bool.eq_false_iff.mpr c7
      subst c7
      rw [if_neg zF] at H
      have H' := zM H
      clear H
      go_wp2_with (first | ((with_reducible refine zG Try.func46 19 #[.int .i64 a0] ?_); (with_reducible refine (impl_isCell.calls a0 false _ A6.1).mono ?_); rintro e w' ⟨rfl, ⟨nd, rfl⟩⟩; refine ⟨_, rfl, ?_⟩))
      go_meet
      case rel => exact ⟨_, (true), zJJ, H', ⟨by first | omega | exact Nat.le_refl _⟩, ⟨zB1⟩⟩
    subst c7
    rw [if_pos rfl] at H
    replace H := zO H
    obtain ⟨t105, A8, H⟩ := H
    by_cases c9 : t105 = true
    rotate_left
    · replace c9 := Bool.eq_false_iff.mpr c9
      subst c9
      rw [if_neg zF] at H
      have H' := zM H
      clear H
      go_wp2_with (first | ((with_reducible refine zG Try.func46 19 #[.int .i64 a0] ?_); (with_reducible refine (impl_isCell.calls a0 true _ A6.1).mono ?_); rintro e w' ⟨rfl, ⟨nd, rfl⟩⟩; refine ⟨_, rfl, ?_⟩) | (go_at_call 43; (with_reducible refine (impl_from.calls a1 1 63 false _ A8.1).mono ?_); rintro e w' ⟨rfl, ⟨nd, rfl⟩⟩))
      go_meet
      case rel => exact ⟨_, (true), zJJ, H', ⟨by first | omega | exact Nat.le_refl _⟩, ⟨zB1⟩⟩
    subst c9
    rw [if_pos rfl] at H
    replace H := zO H
    obtain ⟨t106, A10, H⟩ := H
    by_cases c11 : t106 = true
    rotate_left
    · replace c11 := Bool.eq_false_iff.mpr c11
      subst c11
      rw [if_neg zF] at H
      have H' := zM H
      clear H
      go_wp2_with (first | ((with_reducible refine zG Try.func46 19 #[.int .i64 a0] ?_); (with_reducible refine (impl_isCell.calls a0 true _ A6.1).mono ?_); rintro e w' ⟨rfl, ⟨nd, rfl⟩⟩; refine ⟨_, rfl, ?_⟩) | (go_at_call 43; (with_reducible refine (impl_from.calls a1 1 63 true _ A8.1).mono ?_); rintro e w' ⟨rfl, ⟨nd, rfl⟩⟩) | (go_at_call 43; (with_reducible refine (impl_from.calls a2 0 (wrap64 (24 - (l3.length : Int))) false _ A10.1).mono ?_); rintro e w' ⟨rfl, ⟨nd, rfl⟩⟩))
      go_meet
      case rel => exact ⟨_, (true), zJJ, H', ⟨by first | omega | exact Nat.le_refl _⟩, ⟨zB1⟩⟩
    subst c11
    rw [if_pos rfl] at H
    replace H := zO H
    obtain ⟨t107, A12, H⟩ := H
    have H' := zM H
    clear H
    go_wp2_with (first | ((with_reducible refine zG Try.func46 19 #[.int .i64 a0] ?_); (with_reducible refine (impl_isCell.calls a0 true _ A6.1).mono ?_); rintro e w' ⟨rfl, ⟨nd, rfl⟩⟩; refine ⟨_, rfl, ?_⟩) | (go_at_call 43; (with_reducible refine (impl_from.calls a1 1 63 true _ A8.1).mono ?_); rintro e w' ⟨rfl, ⟨nd, rfl⟩⟩) | (go_at_call 43; (with_reducible refine (impl_from.calls a2 0 (wrap64 (24 - (l3.length : Int))) true _ A10.1).mono ?_); rintro e w' ⟨rfl, ⟨nd, rfl⟩⟩) | (go_at_call 43; (with_reducible refine (impl_from.calls a0 a2 (wrap64 ((wrap64 (a2 + (l3.length : Int))) - 1)) t107 _ A12.1).mono ?_); rintro e w' ⟨rfl, ⟨nd, rfl⟩⟩))
    go_meet
    case rel => exact ⟨_, (t107), zJJ, H', ⟨by first | omega | exact Nat.le_refl _⟩, ⟨zB1⟩⟩
  case rest =>
    clear HC5
    obtain ⟨kq, x41_4, rfl, HA, HJ4, HB⟩ := hcut
    cases kq with
    | zero => exact absurd HA.1 (by simp [impl_coded.j0])
    | succ kj4 =>
      have H := HA.1
      clear HA
      simp only [impl_coded.j0] at H
      by_cases c13 : x41_4 = true
      · subst c13
        rw [if_pos rfl] at H
        simp only [Option.some.injEq, Prod.mk.injEq] at H
        obtain ⟨rfl, rfl⟩ := H
        go_wp2
        go_ret2
        exact ⟨_, zE, by first | exact Kd.R_nil _ _ _ _ _ | exact Kd.N_nil _ _ _ _ _ | exact Kd.V_nil _ _ _ _ _ | exact Kd.Q_nil _ _ _ _ _ | exact Kd.S_nil _ _ _ _ _, zB1⟩
      replace c13 := Bool.eq_false_iff.mpr c13
      subst c13
      rw [if_neg zF] at H
      generalize hy108 : ((([] : List Int)) : List Int) = y108 at H
      have Ny108 := zM hy108.symm
      clear hy108
      have H' := zM H
      clear H
      go_wp2_with (first | ((with_reducible refine gate_dst (N := 42) rfl ?_); refine Kd.R_lit (Kd.int .i64) _ 3 ?hg (N := 42) ?hd (xs := ([] : List Int)) (inner := []) (ok := fun _ => True) (okp := fun _ => True) ?hr ?hp (fun _ hk => hk) trivial (Below.refl _ _) (Nat.le_refl _) (by simp) ?_; (case hd => rfl); (case hg => rfl); (case hr => exact zHH); (case hp => exact (Reps.none _ _)); intro v109 w14 ho15 hb hg_ hnew_; clear hg_ hnew_; (first | rw [← Ny108.1] at ho15 | (simp only [Int.reduceToNat] at ho15; rw [← Ny108.1] at ho15)); have HO110 := zM (Kd.R_lower ho15 (below_size zB1)); replace HB := zM (below_step zB1 hb); clear hb ho15))
      go_loopg [11, 45] kj4 (fun kq v11 v45 w' => ∃ (x11_2 : List Int) (x45_2 : Int), v45 = .int .i64 x45_2 ∧ Aside0 (impl_coded.l0 kq x11_2 l3 (l3.length : Int) x45_2 = some (r1, r2)) ∧ Aside0 (kq ≤ kj4) ∧ Aside0 (Kd.R (Kd.int .i64) 3 w' w.heap.size (fun _ => True) v11 x11_2) ∧ Aside0 (Below w.heap.size w w'))
      case atStart => exact ⟨(y108), (0), zJJ, H', ⟨Nat.le_refl _⟩, ⟨zR HO110.1⟩, ⟨zB1⟩⟩
      case round =>
        clear H'
        obtain ⟨x11_2, x45_2, rfl, HA, HK2, HO_11, HB⟩ := hrel
        cases gk with
        | zero => exact absurd HA.1 (by simp [impl_coded.l0])
        | succ k2 =>
          have H := HA.1
          clear HA
          simp only [impl_coded.l0] at H
          by_cases c16 : x45_2 < (l3.length : Int)
          rotate_left
          · rw [if_neg c16] at H
            have c16b0 := decide_eq_false c16
            clear c16
            simp only [Option.some.injEq, Prod.mk.injEq] at H
            obtain ⟨rfl, rfl⟩ := H
            go_wp2
            go_ret2
            exact ⟨_, zE, zR HO_11.1, zB1⟩
          rw [if_pos c16] at H
          have c16b0 := decide_eq_true c16
          clear c16
          by_cases c17 : 0 ≤ x45_2
          rotate_left
          · rw [if_neg c17] at H
            exact absurd H (by simp)
          rw [if_pos c17] at H
          have c17b0 := decide_eq_true c17
          clear c17
          by_cases c18 : x45_2 < (l3.length : Int)
          rotate_left
          · rw [if_neg c18] at H
            exact absurd H (by simp)
          rw [if_pos c18] at H
          have c18b0 := decide_eq_true c18
          clear c18
          replace H := zO H
          obtain ⟨⟨t113, t114⟩, A19, H⟩ := H
          try dsimp only at H
          by_cases c20 : x11_2.length < 17592186044416
          rotate_left
          · rw [if_neg c20] at H
            exact absurd H (by simp)
          rw [if_pos c20] at H
          have LMc20 := zM c20
          clear c20
          generalize hy115 : ((x11_2 ++ [t113]) : List Int) = y115 at H
          have Ny115 := zM hy115.symm
          clear hy115
          have H' := zM H
          clear H
          obtain ⟨p111, q111, ad111, e111, hx111_0, hx111_1, hx111_2, hx111_3, hx111_4⟩ := zRd (at_T59 HR3.1 x45_2)
          cases e111
          replace hx111_0 := zHx HB.1 hx111_0
          replace hx111_1 := zHx HB.1 hx111_1
          replace hx111_2 := zHx HB.1 hx111_2
          replace hx111_3 := zHx HB.1 hx111_3
          replace hx111_4 := zHx HB.1 hx111_4
          go_wp2_with (first | ((with_reducible refine zBx 13 59 #[.int .i64 0, .int .i64 0, .int .i64 0, .int .i64 0, .int .i64 0] ?_); intro gb112 hg w21 hbox hb; replace HO_11 := zM (Kd.R_below (zR HO_11.1) hb); have BK112 := zM hbox; have GW112 := zM (zW hg (below_size zB1)); have GE112 := zM (zW hg (below_size zB1)); replace HB := zM (below_step zB1 hb); clear hb hbox hg; have hcz22 := zc_5 (w := w21) BK112.1) | ((with_reducible refine zG Try.func69 51 #[.agg #[.int .i64 ((rd_T59 l3 x45_2).f0), .int .i64 ((rd_T59 l3 x45_2).f1), .int .i64 ((rd_T59 l3 x45_2).f2), .int .i64 ((rd_T59 l3 x45_2).f3), .int .i64 ((rd_T59 l3 x45_2).f4)]] ?_); (with_reducible refine (impl_Code.calls ((rd_T59 l3 x45_2).f0) ((rd_T59 l3 x45_2).f1) ((rd_T59 l3 x45_2).f2) ((rd_T59 l3 x45_2).f3) ((rd_T59 l3 x45_2).f4) t113 t114 _ A19.1).mono ?_); rintro e w23 ⟨rfl, hb⟩; refine ⟨_, rfl, ?_⟩; replace HO_11 := zM (Kd.R_below (by refine zrR ?_; exact (Kd.R_mono (zfR (zfR (zfR (zfR (zfR (Kd.R_types HO_11.1 BK112.1 (by decide))))))) (fun _ h_ => h_.1))) hb); replace BK112 := zM (blk_below (g := gb112) (o := .cells #[.int .i64 ((rd_T59 l3 x45_2).f0), .int .i64 ((rd_T59 l3 x45_2).f1), .int .i64 ((rd_T59 l3 x45_2).f2), .int .i64 ((rd_T59 l3 x45_2).f3), .int .i64 ((rd_T59 l3 x45_2).f4)] 59 (0, 0)) (by exact zp5 (zK BK112.1)) hb); replace HB := zM (below_step zB1 hb); clear hb) | ((with_reducible refine gate_builtin (b := .append) (xs := #[.tmp 54, .tmp 56]) rfl ?_); at_builtin; refine Kd.R_append (Kd.int .i64) (w0 := w) w.heap.size rfl (.tmp 54) (.tmp 56) 24 3 (.int .i64 0) 8 rfl Try.underlying24 info3 rfl (by decide) (by omega) u11 x11_2 t113 [.int .i64 t113] (fun _ => True) (fun _ => False) rfl rfl ?aP (fun _ hk => hk.elim) ?aF ?aO ?aB ?aS ?aL ?_; (case aP => exact rfl); (case aB => exact zB1); (case aF => exact (fun _ _ => trivial)); (case aO => exact (zR HO_11.1)); (case aS => exact (below_size zB1)); (case aL => have := LMc20.out; omega); intro v116 w24 ho hb hg hat; rw [← Ny115.1] at ho; replace BK112 := zM (zg BK112.1 hg (Kd.R_ne HO_11.1 BK112.1 (by decide))); replace HB := zM hb; have HO117 := zM ho; clear HO_11; clear ho hb hg hat))
          go_roundg k2
          case measure => have := HJ4.1; have := HK2.1; omega
          case rel => exact ⟨(y115), (wrap64 (x45_2 + 1)), zJJ, H', ⟨by have := HJ4.1; have := HK2.1; omega⟩, ⟨zR HO117.1⟩, ⟨zB1⟩⟩

/-! ### impl_CountCode: function 11 -/
def impl_CountCode.f (k : Nat) (a0 : Int) (a1 : Int) (a2 : Int) : Option (List Int × Bool) := (impl_coded.f k a0 a1 a2 (([(⟨1, 0, 0, 0, a1⟩ : S59), (⟨1, 1, 0, 0, 1⟩ : S59), (⟨6, 2, 3, 1, a0⟩ : S59), (⟨10, 0, 0, 1, 0⟩ : S59), (⟨7, 0, 0, 0, wrap64 (a2 + 6)⟩ : S59), (⟨8, 0, 0, 0, wrap64 (a2 + 2)⟩ : S59), (⟨9, 0, 0, 0, 0⟩ : S59)] : List (S59)))).bind fun bt121 => (some (bt121.1, bt121.2))
theorem impl_CountCode.mono : ∀ a0 a1 a2 k, LeO (impl_CountCode.f k a0 a1 a2) (impl_CountCode.f (k + 1) a0 a1 a2) := by
  intro a0 a1 a2 k
  unfold impl_CountCode.f
  have mo0 := @impl_coded.mono
  exact zL
theorem impl_CountCode.calls (k : Nat) (a0 : Int) (a1 : Int) (a2 : Int) (r1 : List Int) (r2 : Bool) (w : World) (h : impl_CountCode.f k a0 a1 a2 = some (r1, r2)) :
    Calls Try.prog 11 #[.int .i64 a0, .int .i64 a1, .int .i64 a2] w fun e w' => ∃ v0_ : Value, e = .returned (.tuple #[v0_, .bool r2]) ∧ Kd.R (Kd.int .i64) 3 w' w.heap.size (fun _ => True) v0_ r1 ∧ Below w.heap.size w w' := by
  have hu59 := Try.underlying59
  have HB := zM (Below.refl w.heap.size w)
  unfold impl_CountCode.f at h
  have H := h
  clear h
  generalize hy118 : ((([(⟨1, 0, 0, 0, a1⟩ : S59), (⟨1, 1, 0, 0, 1⟩ : S59), (⟨6, 2, 3, 1, a0⟩ : S59), (⟨10, 0, 0, 1, 0⟩ : S59), (⟨7, 0, 0, 0, wrap64 (a2 + 6)⟩ : S59), (⟨8, 0, 0, 0, wrap64 (a2 + 2)⟩ : S59), (⟨9, 0, 0, 0, 0⟩ : S59)] : List (S59))) : List (S59)) = y118 at H
  have Ny118 := zM hy118.symm
  clear hy118
  replace H := zO H
  obtain ⟨⟨t121, t122⟩, A4, H⟩ := H
  try dsimp only at H
  simp only [Option.some.injEq, Prod.mk.injEq] at H
  obtain ⟨rfl, rfl⟩ := H
  go_enter Try.func11, Try.ntmps11
  go_wp2_with (first | ((with_reducible refine gate_dst (N := 24) rfl ?_); refine Kd.R_lit k59 _ 59 ?hg (N := 24) ?hd (xs := ([(⟨1, 0, 0, 0, a1⟩ : S59), (⟨1, 1, 0, 0, 1⟩ : S59), (⟨6, 2, 3, 1, a0⟩ : S59), (⟨10, 0, 0, 1, 0⟩ : S59), (⟨7, 0, 0, 0, wrap64 (a2 + 6)⟩ : S59), (⟨8, 0, 0, 0, wrap64 (a2 + 2)⟩ : S59), (⟨9, 0, 0, 0, 0⟩ : S59)] : List (S59))) (inner := [.int .i64 1, .int .i64 0, .int .i64 0, .int .i64 0, .int .i64 a1, .int .i64 1, .int .i64 1, .int .i64 0, .int .i64 0, .int .i64 1, .int .i64 6, .int .i64 2, .int .i64 3, .int .i64 1, .int .i64 a0, .int .i64 10, .int .i64 0, .int .i64 0, .int .i64 1, .int .i64 0, .int .i64 7, .int .i64 0, .int .i64 0, .int .i64 0, .int .i64 (wrap64 (a2 + 6)), .int .i64 8, .int .i64 0, .int .i64 0, .int .i64 0, .int .i64 (wrap64 (a2 + 2)), .int .i64 9, .int .i64 0, .int .i64 0, .int .i64 0, .int .i64 0]) (ok := fun _ => True) (okp := fun _ => True) ?hr ?hp (fun _ hk => hk) trivial (Below.refl _ _) (Nat.le_refl _) (by simp) ?_; (case hd => rfl); (case hg => rfl); (case hr => exact zHH); (case hp => exact (Reps.c5 (show Kd.M k59 _ _ _ (⟨1, 0, 0, 0, a1⟩ : S59) [.int .i64 1, .int .i64 0, .int .i64 0, .int .i64 0, .int .i64 a1] from (k59_mkM _ _ _ (⟨1, 0, 0, 0, a1⟩ : S59) )) (Reps.c5 (show Kd.M k59 _ _ _ (⟨1, 1, 0, 0, 1⟩ : S59) [.int .i64 1, .int .i64 1, .int .i64 0, .int .i64 0, .int .i64 1] from (k59_mkM _ _ _ (⟨1, 1, 0, 0, 1⟩ : S59) )) (Reps.c5 (show Kd.M k59 _ _ _ (⟨6, 2, 3, 1, a0⟩ : S59) [.int .i64 6, .int .i64 2, .int .i64 3, .int .i64 1, .int .i64 a0] from (k59_mkM _ _ _ (⟨6, 2, 3, 1, a0⟩ : S59) )) (Reps.c5 (show Kd.M k59 _ _ _ (⟨10, 0, 0, 1, 0⟩ : S59) [.int .i64 10, .int .i64 0, .int .i64 0, .int .i64 1, .int .i64 0] from (k59_mkM _ _ _ (⟨10, 0, 0, 1, 0⟩ : S59) )) (Reps.c5 (show Kd.M k59 _ _ _ (⟨7, 0, 0, 0, wrap64 (a2 + 6)⟩ : S59) [.int .i64 7, .int .i64 0, .int .i64 0, .int .i64 0, .int .i64 (wrap64 (a2 + 6))] from (k59_mkM _ _ _ (⟨7, 0, 0, 0, wrap64 (a2 + 6)⟩ : S59) )) (Reps.c5 (show Kd.M k59 _ _ _ (⟨8, 0, 0, 0, wrap64 (a2 + 2)⟩ : S59) [.int .i64 8, .int .i64 0, .int .i64 0, .int .i64 0, .int .i64 (wrap64 (a2 + 2))] from (k59_mkM _ _ _ (⟨8, 0, 0, 0, wrap64 (a2 + 2)⟩ : S59) )) (Reps.c5 (show Kd.M k59 _ _ _ (⟨9, 0, 0, 0, 0⟩ : S59) [.int .i64 9, .int .i64 0, .int .i64 0, .int .i64 0, .int .i64 0] from (k59_mkM _ _ _ (⟨9, 0, 0, 0, 0⟩ : S59) )) (Reps.none _ _))))))))); intro v119 w5 ho6 hb hg_ hnew_; clear hg_ hnew_; (first | rw [← Ny118.1] at ho6 | (simp only [Int.reduceToNat] at ho6; rw [← Ny118.1] at ho6)); have HO120 := zM (Kd.R_lower ho6 (below_size zB1)); replace HB := zM (below_step zB1 hb); clear hb ho6; obtain ⟨Ao7, co7, eo7⟩ := Kd.R_slice HO120.1; subst eo7) | ((with_reducible refine zG Try.func40 25 #[.int .i64 a0, .int .i64 a1, .int .i64 a2, .slice Ao7 y118.length co7] ?_); (with_reducible refine (impl_coded.calls k a0 a1 a2 _ _ y118 t121 t122 _ ?side1 ?side2 A4.1).mono ?_); (case side1 => exact zC (Kd.R_reads' HO120.1).2.2); (case side2 => exact (Kd.R_reads' HO120.1).2.1); rintro e w8 ⟨v123, rfl, ho0, hb⟩; refine ⟨_, rfl, ?_⟩; replace HO120 := zM (Kd.R_below (zR HO120.1) hb); have HO124 := zM (Kd.R_lower ho0 (below_size zB1)); replace HB := zM (below_step zB1 hb); clear hb ho0))
  go_ret2
  exact ⟨_, zE, zR HO124.1, zB1⟩

end Go.Proofs.Ytnjdepmlpdjghaa.PFnAllCounts
