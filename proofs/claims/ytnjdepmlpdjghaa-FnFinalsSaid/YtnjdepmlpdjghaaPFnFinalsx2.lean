-- made by wip/tools/myprint.py out of the seat's translation
import Derived.Test.YtnjdepmlpdjghaaPFnFinalsx0
namespace Go.Proofs.Ytnjdepmlpdjghaa.PFnFinals
open Go.RowKit Go.Proofs.YtnjdepmlpdjghaaW.PrintWords Go.Proofs.YtnjdepmlpdjghaaW.PrintLast Go.Proofs.YtnjdepmlpdjghaaW.PrintMore
attribute [local go_sem] max2_int min2_int max_two min_two max_three min_three max_four min_four   -- for this text's walks alone
set_option linter.unusedVariables false
set_option linter.unusedSimpArgs false
set_option maxHeartbeats 8000000
set_option maxRecDepth 100000

/-! ### laws_big: function 10 -/
def laws_big.f (l0 : List Int) : Option (Bool) := some (decide ((l0.length : Int) > 1048576))
theorem laws_big.calls (A0 : Option Addr) (c0 : Nat) (l0 : List Int) (r : Bool) (w : World) (hr0 : Kd.C (Kd.int .u8) w A0 l0.length l0) (hc0 : l0.length ≤ c0) (h : laws_big.f l0 = some r) :
  Calls Try.prog 10 #[.slice A0 l0.length c0] w fun e w' => e = .returned (.bool r) ∧ Drawn0 w w' := by
 have HR0 := zM hr0
 have HC0 := zM hc0
 clear hr0 hc0
 unfold laws_big.f at h
 have H := h
 clear h
 obtain rfl := Option.some.inj H
 go_enter Try.func10, Try.ntmps10
 go_wp2
 go_ret
 exact ⟨zJJ, zDD⟩

-- NOT PRINTED: function 92 (slices_IndexFunc_int_int_92)

-- NOT PRINTED: function 70 (slices_ContainsFunc_int_int_70)

/-! ### impl_from: function 43 -/
def impl_from.f (a0 : Int) (a1 : Int) (a2 : Int) : Option (Bool) := if a0 ≥ a1 then (some (decide (a0 ≤ a2))) else (some false)
theorem impl_from.calls (a0 : Int) (a1 : Int) (a2 : Int) (r : Bool) (w : World) (h : impl_from.f a0 a1 a2 = some r) :
  Calls Try.prog 43 #[.int .i64 a0, .int .i64 a1, .int .i64 a2] w fun e w' => e = .returned (.bool r) ∧ Drawn0 w w' := by
 unfold impl_from.f at h
 have H := h
 clear h
 by_cases c4 : a0 ≥ a1
 ·rw [if_pos c4] at H
  have c4b0 := decide_eq_true c4
  clear c4
  obtain rfl := Option.some.inj H
  go_enter Try.func43, Try.ntmps43
  go_wp2
  go_ret
  exact ⟨zJJ, zDD⟩
 rw [if_neg c4] at H
 have c4b0 := decide_eq_false c4
 clear c4
 obtain rfl := Option.some.inj H
 go_enter Try.func43, Try.ntmps43
 go_wp2
 go_ret
 exact ⟨zJJ, zDD⟩

/-! ### impl_isWord: function 72 -/
def impl_isWord.f (a0 : Int) : Option (Bool) := (impl_from.f a0 0 65535).bind fun t101 => (some t101)
theorem impl_isWord.calls (a0 : Int) (r : Bool) (w : World) (h : impl_isWord.f a0 = some r) :
  Calls Try.prog 72 #[.int .i64 a0] w fun e w' => e = .returned (.bool r) ∧ Drawn0 w w' := by
 unfold impl_isWord.f at h
 have H := h
 clear h
 replace H := zO H
 obtain ⟨t101, A2, H⟩ := H
 obtain rfl := Option.some.inj H
 go_enter Try.func72, Try.ntmps72
 go_wp2_with (first | ((with_reducible refine zG Try.func43 4 #[.int .i64 a0, .int .i64 0, .int .i64 65535] ?_); (with_reducible refine (impl_from.calls a0 0 65535 t101 _ A2.1).mono ?_); rintro e w' ⟨rfl, ⟨nd, rfl⟩⟩; refine ⟨_, rfl, ?_⟩))
 go_ret
 exact ⟨zJJ, zDD⟩

/-! ### impl_wordsOk_1: function 71 -/
def impl_wordsOk_1.f (a0 : Int) : Option (Bool) := (impl_isWord.f a0).bind fun t102 => (some (!t102))
theorem impl_wordsOk_1.calls (a0 : Int) (r : Bool) (w : World) (h : impl_wordsOk_1.f a0 = some r) :
  Calls Try.prog 71 #[.int .i64 a0] w fun e w' => e = .returned (.bool r) ∧ Drawn0 w w' := by
 unfold impl_wordsOk_1.f at h
 have H := h
 clear h
 replace H := zO H
 obtain ⟨t102, A2, H⟩ := H
 obtain rfl := Option.some.inj H
 go_enter Try.func71, Try.ntmps71
 go_wp2_with (first | ((with_reducible refine zG Try.func72 4 #[.int .i64 a0] ?_); (with_reducible refine (impl_isWord.calls a0 t102 _ A2.1).mono ?_); rintro e w' ⟨rfl, ⟨nd, rfl⟩⟩; refine ⟨_, rfl, ?_⟩))
 go_ret
 exact ⟨zJJ, zDD⟩

/-! ### slices_IndexFunc_at_impl_wordsOk_1: function 92 -/
def slices_IndexFunc_at_impl_wordsOk_1.l0 : Nat → List Int → Int → Int → Option (Int)
 | 0, _, _, _ => none
 | k + 1, x0, x7, x8 => if x8 < x7 then (if 0 ≤ x8 then (if x8 < (x0.length : Int) then ((impl_wordsOk_1.f (rd x0 x8)).bind fun t104 => (if t104 = true then (some x8) else (slices_IndexFunc_at_impl_wordsOk_1.l0 k x0 x7 (wrap64 (x8 + 1))))) else (none)) else (none)) else (some (-1))
def slices_IndexFunc_at_impl_wordsOk_1.f (k : Nat) (l0 : List Int) (a1 : Int) : Option (Int) := slices_IndexFunc_at_impl_wordsOk_1.l0 k l0 (l0.length : Int) 0
theorem slices_IndexFunc_at_impl_wordsOk_1.mono_l : ∀ k, (∀ y0 y1 y2, LeO (slices_IndexFunc_at_impl_wordsOk_1.l0 k y0 y1 y2) (slices_IndexFunc_at_impl_wordsOk_1.l0 (k + 1) y0 y1 y2))
 | 0 => fun _ _ _ r h => by simp [slices_IndexFunc_at_impl_wordsOk_1.l0] at h
 | k + 1 => by
  have ih0 := slices_IndexFunc_at_impl_wordsOk_1.mono_l k
  ·intros
   unfold slices_IndexFunc_at_impl_wordsOk_1.l0
   exact zL
theorem slices_IndexFunc_at_impl_wordsOk_1.mono : ∀ a0 a1 k, LeO (slices_IndexFunc_at_impl_wordsOk_1.f k a0 a1) (slices_IndexFunc_at_impl_wordsOk_1.f (k + 1) a0 a1) := by
 intro a0 a1 k
 have ih0 := slices_IndexFunc_at_impl_wordsOk_1.mono_l k
 unfold slices_IndexFunc_at_impl_wordsOk_1.f
 exact zL
theorem slices_IndexFunc_at_impl_wordsOk_1.calls (k : Nat) (A0 : Option Addr) (c0 : Nat) (l0 : List Int) (a1 : Int) (r : Int) (w : World) (hr0 : Kd.C (Kd.int .i64) w A0 l0.length l0) (hc0 : l0.length ≤ c0) (h : slices_IndexFunc_at_impl_wordsOk_1.f k l0 a1 = some r) :
  Calls Try.prog 92 #[.slice A0 l0.length c0, .func (.func 71) #[] #[]] w fun e w' => e = .returned (.int .i64 r) ∧ Drawn0 w w' := by
 have HR0 := zM hr0
 have HC0 := zM hc0
 clear hr0 hc0
 unfold slices_IndexFunc_at_impl_wordsOk_1.f at h
 have H := h
 clear h
 have H' := zM H
 clear H
 go_enter Try.func92, Try.ntmps92
 go_wp2
 go_loopg [8] k (fun kq v8 w' => ∃ (x8_1 : Int), v8 = .int .i64 x8_1 ∧ Aside0 (slices_IndexFunc_at_impl_wordsOk_1.l0 kq l0 (l0.length : Int) x8_1 = some r) ∧ Aside0 (kq ≤ k) ∧ Drawn0 w w')
 case atStart => exact ⟨(0), zJJ, H', ⟨Nat.le_refl _⟩, zDD⟩
 case round =>
  clear H'
  obtain ⟨x8_1, rfl, HA, HK1, ⟨m1, rfl⟩⟩ := hrel
  cases gk with
  | zero => exact absurd HA.1 (by simp [slices_IndexFunc_at_impl_wordsOk_1.l0])
  | succ k1 =>
   have H := HA.1
   clear HA
   simp only [slices_IndexFunc_at_impl_wordsOk_1.l0] at H
   by_cases c3 : x8_1 < (l0.length : Int)
   rotate_left
   ·rw [if_neg c3] at H
    have c3b0 := decide_eq_false c3
    clear c3
    obtain rfl := Option.some.inj H
    go_wp2
    go_ret
    exact ⟨zJJ, zDD⟩
   rw [if_pos c3] at H
   have c3b0 := decide_eq_true c3
   clear c3
   replace H := zIt H
   obtain ⟨c4b0, H⟩ := H
   replace H := zIt H
   obtain ⟨c5b0, H⟩ := H
   replace H := zO H
   obtain ⟨t104, A6, H⟩ := H
   by_cases c7 : t104 = true
   ·subst c7
    rw [if_pos rfl] at H
    obtain rfl := Option.some.inj H
    obtain ⟨p103, q103, ad103, e103, hx103_0⟩ := zRd (Kd.at_int HR0.1 x8_1)
    cases e103
    go_wp2_with (first | (go_at_call 71; (with_reducible refine (impl_wordsOk_1.calls (rd l0 x8_1) true _ A6.1).mono ?_); rintro e w' ⟨rfl, ⟨nd, rfl⟩⟩))
    go_ret
    exact ⟨zJJ, zDD⟩
   replace c7 := Bool.eq_false_iff.mpr c7
   subst c7
   rw [if_neg zF] at H
   have H' := zM H
   clear H
   obtain ⟨p103, q103, ad103, e103, hx103_0⟩ := zRd (Kd.at_int HR0.1 x8_1)
   cases e103
   go_wp2_with (first | (go_at_call 71; (with_reducible refine (impl_wordsOk_1.calls (rd l0 x8_1) false _ A6.1).mono ?_); rintro e w' ⟨rfl, ⟨nd, rfl⟩⟩))
   go_roundg k1
   case measure => have := HK1.1; omega
   case rel => exact ⟨(wrap64 (x8_1 + 1)), zJJ, H', ⟨by have := HK1.1; omega⟩, zDD⟩

/-! ### slices_ContainsFunc_at_impl_wordsOk_1: function 70 -/
def slices_ContainsFunc_at_impl_wordsOk_1.f (k : Nat) (l0 : List Int) (a1 : Int) : Option (Bool) := (slices_IndexFunc_at_impl_wordsOk_1.f k l0 0).bind fun t105 => (some (decide (t105 ≥ 0)))
theorem slices_ContainsFunc_at_impl_wordsOk_1.mono : ∀ a0 a1 k, LeO (slices_ContainsFunc_at_impl_wordsOk_1.f k a0 a1) (slices_ContainsFunc_at_impl_wordsOk_1.f (k + 1) a0 a1) := by
 intro a0 a1 k
 unfold slices_ContainsFunc_at_impl_wordsOk_1.f
 have mo0 := @slices_IndexFunc_at_impl_wordsOk_1.mono
 exact zL
theorem slices_ContainsFunc_at_impl_wordsOk_1.calls (k : Nat) (A0 : Option Addr) (c0 : Nat) (l0 : List Int) (a1 : Int) (r : Bool) (w : World) (hr0 : Kd.C (Kd.int .i64) w A0 l0.length l0) (hc0 : l0.length ≤ c0) (h : slices_ContainsFunc_at_impl_wordsOk_1.f k l0 a1 = some r) :
  Calls Try.prog 70 #[.slice A0 l0.length c0, .func (.func 71) #[] #[]] w fun e w' => e = .returned (.bool r) ∧ Drawn0 w w' := by
 have HR0 := zM hr0
 have HC0 := zM hc0
 clear hr0 hc0
 unfold slices_ContainsFunc_at_impl_wordsOk_1.f at h
 have H := h
 clear h
 replace H := zO H
 obtain ⟨t105, A3, H⟩ := H
 obtain rfl := Option.some.inj H
 go_enter Try.func70, Try.ntmps70
 go_wp2_with (first | ((with_reducible refine zG Try.func92 7 #[.slice A0 l0.length c0, .func (.func 71) #[] #[]] ?_); (with_reducible refine (slices_IndexFunc_at_impl_wordsOk_1.calls k _ _ l0 0 t105 _ ?side1 ?side2 A3.1).mono ?_); (case side1 => exact zC HR0.1); (case side2 => exact HC0.1); rintro e w' ⟨rfl, ⟨nd, rfl⟩⟩; refine ⟨_, rfl, ?_⟩))
 go_ret
 exact ⟨zJJ, zDD⟩

/-! ### impl_wordsOk: function 44 -/
def impl_wordsOk.f (k : Nat) (l0 : List Int) (a1 : Int) : Option (Bool) := if (l0.length : Int) = a1 then ((slices_ContainsFunc_at_impl_wordsOk_1.f k l0 0).bind fun t106 => (some (!t106))) else (some false)
theorem impl_wordsOk.mono : ∀ a0 a1 k, LeO (impl_wordsOk.f k a0 a1) (impl_wordsOk.f (k + 1) a0 a1) := by
 intro a0 a1 k
 unfold impl_wordsOk.f
 have mo0 := @slices_ContainsFunc_at_impl_wordsOk_1.mono
 exact zL
theorem impl_wordsOk.calls (k : Nat) (A0 : Option Addr) (c0 : Nat) (l0 : List Int) (a1 : Int) (r : Bool) (w : World) (hr0 : Kd.C (Kd.int .i64) w A0 l0.length l0) (hc0 : l0.length ≤ c0) (h : impl_wordsOk.f k l0 a1 = some r) :
  Calls Try.prog 44 #[.slice A0 l0.length c0, .int .i64 a1] w fun e w' => e = .returned (.bool r) ∧ Drawn0 w w' := by
 have HR0 := zM hr0
 have HC0 := zM hc0
 clear hr0 hc0
 unfold impl_wordsOk.f at h
 have H := h
 clear h
 by_cases c3 : (l0.length : Int) = a1
 rotate_left
 ·rw [if_neg c3] at H
  have c3b0 : ((l0.length : Int) == a1) = false := beq_eq_false_iff_ne.mpr c3
  have c3b1 : ((l0.length : Int) != a1) = true := bne_iff_ne.mpr c3
  obtain rfl := Option.some.inj H
  go_enter Try.func44, Try.ntmps44
  go_wp2
  go_ret
  exact ⟨zJJ, zDD⟩
 rw [if_pos c3] at H
 have c3b0 : ((l0.length : Int) == a1) = true := beq_iff_eq.mpr c3
 have c3b1 : ((l0.length : Int) != a1) = false := bne_eq_false_iff_eq.mpr c3
 clear c3
 replace H := zO H
 obtain ⟨t106, A4, H⟩ := H
 obtain rfl := Option.some.inj H
 go_enter Try.func44, Try.ntmps44
 go_wp2_with (first | (go_at_call 70; (with_reducible refine (slices_ContainsFunc_at_impl_wordsOk_1.calls k _ _ l0 0 t106 _ ?side1 ?side2 A4.1).mono ?_); (case side1 => exact zC HR0.1); (case side2 => exact HC0.1); rintro e w' ⟨rfl, ⟨nd, rfl⟩⟩))
 go_ret
 exact ⟨zJJ, zDD⟩

/-! ### impl_memOk: function 42 -/
def impl_memOk.f (k : Nat) (l0 : List Int) : Option (Bool) := (impl_wordsOk.f k l0 24).bind fun t107 => (some t107)
theorem impl_memOk.mono : ∀ a0 k, LeO (impl_memOk.f k a0) (impl_memOk.f (k + 1) a0) := by
 intro a0 k
 unfold impl_memOk.f
 have mo0 := @impl_wordsOk.mono
 exact zL
theorem impl_memOk.calls (k : Nat) (A0 : Option Addr) (c0 : Nat) (l0 : List Int) (r : Bool) (w : World) (hr0 : Kd.C (Kd.int .i64) w A0 l0.length l0) (hc0 : l0.length ≤ c0) (h : impl_memOk.f k l0 = some r) :
  Calls Try.prog 42 #[.slice A0 l0.length c0] w fun e w' => e = .returned (.bool r) ∧ Drawn0 w w' := by
 have HR0 := zM hr0
 have HC0 := zM hc0
 clear hr0 hc0
 unfold impl_memOk.f at h
 have H := h
 clear h
 replace H := zO H
 obtain ⟨t107, A2, H⟩ := H
 obtain rfl := Option.some.inj H
 go_enter Try.func42, Try.ntmps42
 go_wp2_with (first | ((with_reducible refine zG Try.func44 4 #[.slice A0 l0.length c0, .int .i64 24] ?_); (with_reducible refine (impl_wordsOk.calls k _ _ l0 24 t107 _ ?side1 ?side2 A2.1).mono ?_); (case side1 => exact zC HR0.1); (case side2 => exact HC0.1); rintro e w' ⟨rfl, ⟨nd, rfl⟩⟩; refine ⟨_, rfl, ?_⟩))
 go_ret
 exact ⟨zJJ, zDD⟩

-- NOT PRINTED: function 79 (impl_Hart_79)

-- NOT PRINTED: function 56 (impl_Hart_56)

/-! ### impl_isCell: function 46 -/
def impl_isCell.f (a0 : Int) : Option (Bool) := (impl_from.f a0 0 23).bind fun t108 => (some t108)
theorem impl_isCell.calls (a0 : Int) (r : Bool) (w : World) (h : impl_isCell.f a0 = some r) :
  Calls Try.prog 46 #[.int .i64 a0] w fun e w' => e = .returned (.bool r) ∧ Drawn0 w w' := by
 unfold impl_isCell.f at h
 have H := h
 clear h
 replace H := zO H
 obtain ⟨t108, A2, H⟩ := H
 obtain rfl := Option.some.inj H
 go_enter Try.func46, Try.ntmps46
 go_wp2_with (first | ((with_reducible refine zG Try.func43 4 #[.int .i64 a0, .int .i64 0, .int .i64 23] ?_); (with_reducible refine (impl_from.calls a0 0 23 t108 _ A2.1).mono ?_); rintro e w' ⟨rfl, ⟨nd, rfl⟩⟩; refine ⟨_, rfl, ?_⟩))
 go_ret
 exact ⟨zJJ, zDD⟩

/-! ### impl_HartOk: function 58 -/
def impl_HartOk.f (k : Nat) (l0_0 : List Int) (a0_1 : Int) (a0_2 : Int) : Option (Bool) := (impl_wordsOk.f k l0_0 4).bind fun t110 => (if t110 = true then ((impl_isCell.f a0_1).bind fun t111 => (if t111 = true then ((impl_from.f a0_2 0 2).bind fun t112 => (some t112)) else (some false))) else (some false))
theorem impl_HartOk.mono : ∀ a0 a1 a2 k, LeO (impl_HartOk.f k a0 a1 a2) (impl_HartOk.f (k + 1) a0 a1 a2) := by
 intro a0 a1 a2 k
 unfold impl_HartOk.f
 have mo0 := @impl_wordsOk.mono
 exact zL
theorem impl_HartOk.calls (k : Nat) (A0_0 : Option Addr) (c0_0 : Nat) (l0_0 : List Int) (a0_1 : Int) (a0_2 : Int) (r : Bool) (w : World) (hr0_0 : Kd.C (Kd.int .i64) w A0_0 l0_0.length l0_0) (hc0_0 : l0_0.length ≤ c0_0) (h : impl_HartOk.f k l0_0 a0_1 a0_2 = some r) :
  Calls Try.prog 58 #[.agg #[.slice A0_0 l0_0.length c0_0, .int .i64 a0_1, .int .i64 a0_2]] w fun e w' => e = .returned (.bool r) ∧ Below w.heap.size w w' := by
 have hu29 := Try.underlying29
 have HR0_0 := zM hr0_0
 have HC0_0 := zM hc0_0
 clear hr0_0 hc0_0
 have HB := zM (Below.refl w.heap.size w)
 unfold impl_HartOk.f at h
 have H := h
 clear h
 replace H := zO H
 obtain ⟨t110, A2, H⟩ := H
 by_cases c3 : t110 = true
 rotate_left
 ·replace c3 := Bool.eq_false_iff.mpr c3
  subst c3
  rw [if_neg zF] at H
  obtain rfl := Option.some.inj H
  go_enter Try.func58, Try.ntmps58
  go_wp2_with (first | ((with_reducible refine zBx 1 29 #[.slice A0_0 l0_0.length c0_0, .int .i64 a0_1, .int .i64 a0_2] ?_); intro gb109 hg w11 hbox hb; have BK109 := zM hbox; have GW109 := zM (zW hg (below_size zB0)); have GE109 := zM (zW hg (below_size zB0)); replace HB := zM (below_step zB0 hb); clear hb hbox hg; have hcz12 := zc_3 (w := w11) BK109.1) | ((with_reducible refine zG Try.func44 5 #[.slice A0_0 l0_0.length c0_0, .int .i64 4] ?_); (with_reducible refine (impl_wordsOk.calls k _ _ l0_0 4 false _ ?side1 ?side2 A2.1).mono ?_); (case side1 => exact zC (Kd.C_below HR0_0.1 HB.1)); (case side2 => exact HC0_0.1); rintro e w' ⟨rfl, ⟨nd, rfl⟩⟩; refine ⟨_, rfl, ?_⟩))
  go_ret
  exact ⟨zE, zB0⟩
 subst c3
 rw [if_pos rfl] at H
 replace H := zO H
 obtain ⟨t111, A4, H⟩ := H
 by_cases c5 : t111 = true
 rotate_left
 ·replace c5 := Bool.eq_false_iff.mpr c5
  subst c5
  rw [if_neg zF] at H
  obtain rfl := Option.some.inj H
  go_enter Try.func58, Try.ntmps58
  go_wp2_with (first | ((with_reducible refine zBx 1 29 #[.slice A0_0 l0_0.length c0_0, .int .i64 a0_1, .int .i64 a0_2] ?_); intro gb109 hg w9 hbox hb; have BK109 := zM hbox; have GW109 := zM (zW hg (below_size zB0)); have GE109 := zM (zW hg (below_size zB0)); replace HB := zM (below_step zB0 hb); clear hb hbox hg; have hcz10 := zc_3 (w := w9) BK109.1) | ((with_reducible refine zG Try.func44 5 #[.slice A0_0 l0_0.length c0_0, .int .i64 4] ?_); (with_reducible refine (impl_wordsOk.calls k _ _ l0_0 4 true _ ?side1 ?side2 A2.1).mono ?_); (case side1 => exact zC (Kd.C_below HR0_0.1 HB.1)); (case side2 => exact HC0_0.1); rintro e w' ⟨rfl, ⟨nd, rfl⟩⟩; refine ⟨_, rfl, ?_⟩) | (go_at_call 46; (with_reducible refine (impl_isCell.calls a0_1 false _ A4.1).mono ?_); rintro e w' ⟨rfl, ⟨nd, rfl⟩⟩))
  go_ret
  exact ⟨zE, zB0⟩
 subst c5
 rw [if_pos rfl] at H
 replace H := zO H
 obtain ⟨t112, A6, H⟩ := H
 obtain rfl := Option.some.inj H
 go_enter Try.func58, Try.ntmps58
 go_wp2_with (first | ((with_reducible refine zBx 1 29 #[.slice A0_0 l0_0.length c0_0, .int .i64 a0_1, .int .i64 a0_2] ?_); intro gb109 hg w7 hbox hb; have BK109 := zM hbox; have GW109 := zM (zW hg (below_size zB0)); have GE109 := zM (zW hg (below_size zB0)); replace HB := zM (below_step zB0 hb); clear hb hbox hg; have hcz8 := zc_3 (w := w7) BK109.1) | ((with_reducible refine zG Try.func44 5 #[.slice A0_0 l0_0.length c0_0, .int .i64 4] ?_); (with_reducible refine (impl_wordsOk.calls k _ _ l0_0 4 true _ ?side1 ?side2 A2.1).mono ?_); (case side1 => exact zC (Kd.C_below HR0_0.1 HB.1)); (case side2 => exact HC0_0.1); rintro e w' ⟨rfl, ⟨nd, rfl⟩⟩; refine ⟨_, rfl, ?_⟩) | (go_at_call 46; (with_reducible refine (impl_isCell.calls a0_1 true _ A4.1).mono ?_); rintro e w' ⟨rfl, ⟨nd, rfl⟩⟩) | (go_at_call 43; (with_reducible refine (impl_from.calls a0_2 0 2 t112 _ A6.1).mono ?_); rintro e w' ⟨rfl, ⟨nd, rfl⟩⟩))
 go_ret
 exact ⟨zE, zB0⟩

/-! ### impl_Ends2_1: function 57 -/
def impl_Ends2_1.f (k : Nat) (l0_0 : List Int) (a0_1 : Int) (a0_2 : Int) : Option (Bool) := (impl_HartOk.f k l0_0 a0_1 a0_2).bind fun t114 => (some (!t114))
theorem impl_Ends2_1.mono : ∀ a0 a1 a2 k, LeO (impl_Ends2_1.f k a0 a1 a2) (impl_Ends2_1.f (k + 1) a0 a1 a2) := by
 intro a0 a1 a2 k
 unfold impl_Ends2_1.f
 have mo0 := @impl_HartOk.mono
 exact zL
theorem impl_Ends2_1.calls (k : Nat) (A0_0 : Option Addr) (c0_0 : Nat) (l0_0 : List Int) (a0_1 : Int) (a0_2 : Int) (r : Bool) (w : World) (hr0_0 : Kd.C (Kd.int .i64) w A0_0 l0_0.length l0_0) (hc0_0 : l0_0.length ≤ c0_0) (h : impl_Ends2_1.f k l0_0 a0_1 a0_2 = some r) :
  Calls Try.prog 57 #[.agg #[.slice A0_0 l0_0.length c0_0, .int .i64 a0_1, .int .i64 a0_2]] w fun e w' => e = .returned (.bool r) ∧ Below w.heap.size w w' := by
 have hu29 := Try.underlying29
 have HR0_0 := zM hr0_0
 have HC0_0 := zM hc0_0
 clear hr0_0 hc0_0
 have HB := zM (Below.refl w.heap.size w)
 unfold impl_Ends2_1.f at h
 have H := h
 clear h
 replace H := zO H
 obtain ⟨t114, A2, H⟩ := H
 obtain rfl := Option.some.inj H
 go_enter Try.func57, Try.ntmps57
 go_wp2_with (first | ((with_reducible refine zBx 1 29 #[.slice A0_0 l0_0.length c0_0, .int .i64 a0_1, .int .i64 a0_2] ?_); intro gb113 hg w3 hbox hb; have BK113 := zM hbox; have GW113 := zM (zW hg (below_size zB0)); have GE113 := zM (zW hg (below_size zB0)); replace HB := zM (below_step zB0 hb); clear hb hbox hg; have hcz4 := zc_3 (w := w3) BK113.1) | ((with_reducible refine zG Try.func58 4 #[.agg #[.slice A0_0 l0_0.length c0_0, .int .i64 a0_1, .int .i64 a0_2]] ?_); (with_reducible refine (impl_HartOk.calls k _ _ l0_0 a0_1 a0_2 t114 _ ?side1 ?side2 A2.1).mono ?_); (case side1 => exact zC (Kd.C_below HR0_0.1 HB.1)); (case side2 => exact HC0_0.1); rintro e w5 ⟨rfl, hb⟩; refine ⟨_, rfl, ?_⟩; replace BK113 := zM (zb BK113.1 hb); replace HB := zM (below_step zB0 hb); clear hb))
 go_ret
 exact ⟨zE, zB0⟩

/-! ### slices_Clone_int_int: function 41 -/
def slices_Clone_int_int.f (l0 : List Int) : Option (List Int) := if l0.length ≤ 17592186044416 then some l0 else none
theorem slices_Clone_int_int.calls (A0 : Option Addr) (c0 : Nat) (l0 : List Int) (r : List Int) (w : World) (hr0 : Kd.C (Kd.int .i64) w A0 l0.length l0) (hc0 : l0.length ≤ c0) (h : slices_Clone_int_int.f l0 = some r) :
  Calls Try.prog 41 #[.slice A0 l0.length c0] w fun e w' => ∃ v0_ : Value, e = .returned (v0_) ∧ Kd.R (Kd.int .i64) 3 w' w.heap.size (fun _ => True) v0_ r ∧ Below w.heap.size w w' := by
 unfold slices_Clone_int_int.f at h
 by_cases hl : l0.length ≤ 17592186044416
 rotate_left
 ·rw [if_neg hl] at h
  exact absurd h (by simp)
 rw [if_pos hl] at h
 obtain rfl := Option.some.inj h
 have LM := zM hl
 clear h hl
 have HR0 := zM hr0
 have HC0 := zM hc0
 clear hr0 hc0
 have HB := zM (Below.refl w.heap.size w)
 have q22 : ∀ (w : World) (a : Option Addr) (n c n' c' : Nat), (binOp .eql 24 (.slice a n c) (.slice none n' c')).run Try.prog w = .ok (.bool a.isNone) w := fun w a n c n' c' => Lib.run_eql_slice_nil w _ _ a n c n' c' Try.underlying24
 cases A0 with
 | none =>
  have hz : l0 = [] := by
   cases l0 with
   | nil => rfl
   | cons x xs => obtain ⟨ad, e, _⟩ := HR0.1.2.2 (by simp); cases e
  subst hz
  go_enter Try.func41, Try.ntmps41
  go_wp2
  go_ret
  exact ⟨_, rfl, Kd.R_nil _ _ _ _ _, Below.refl _ _⟩
 | some ad =>
  obtain ⟨y1, hy1⟩ : ∃ y_ : List Int, y_ = ([] : List Int) := ⟨_, rfl⟩
  have Ny1 := zM hy1
  clear hy1
  go_enter Try.func41, Try.ntmps41
  go_wp2_with (first | ((with_reducible refine gate_dst (N := 5) rfl ?_); refine Kd.R_lit (Kd.int .i64) _ 3 ?hg (N := 5) ?hd (xs := ([] : List Int)) (inner := []) (ok := fun _ => True) (okp := fun _ => True) ?hr ?hp (fun _ hk => hk) trivial (Below.refl _ _) (Nat.le_refl _) (by simp) ?_; (case hd => rfl); (case hg => rfl); (case hr => exact zHH); (case hp => exact (Reps.none _ _)); intro v461 w5 ho6 hb hg_ hnew_; clear hg_ hnew_; (first | rw [← Ny1.1] at ho6 | (simp only [Int.reduceToNat] at ho6; rw [← Ny1.1] at ho6)); have n0_ := zM (Kd.R_lower ho6 (below_size HB.1)); have n3_ := zM (below_step HB.1 hb); clear HB; have HO462 := n0_; have HB := n3_; clear n0_ n3_; clear hb ho6) | ((with_reducible refine gate_builtin (b := .append) (xs := #[.tmp 5, .tmp 6]) rfl ?_); at_builtin; refine Kd.R_append_rows (Kd.int .i64) (w0 := w) w.heap.size rfl (.tmp 5) (.tmp 6) 24 3 (.int .i64 0) 8 rfl Try.underlying24 info3 rfl (by decide) (by omega) v461 y1 l0 _ _ _ (fun _ => True) (fun _ => False) rfl rfl ?aO ?aR (fun _ _ h => h) (fun _ h => h.elim) ?aF ?aB ?aS ?aL ?_; (case aR => exact zC (Kd.C_below HR0.1 HB.1)); (case aB => exact zB0); (case aF => exact (fun _ _ => trivial)); (case aO => exact (zR HO462.1)); (case aS => exact (below_size zB0)); (case aL => have h1_ := LM.out; have h2_ : y1.length = 0 := (by rw [Ny1.1]; rfl); rw [h2_]; omega); intro v464 w9 ho hb hg hat; rw [Ny1.1, List.nil_append] at ho; have n2_ := zM hb; have n3_ := zM ho; clear HB; clear HO462; have HB := n2_; have HO465 := n3_; clear n2_ n3_; clear ho hb hg hat))
  go_ret
  exact ⟨_, rfl, HO465.1, HB.1⟩

/-! ### impl_form: function 116 -/
mutual
def impl_form.j0 : Nat → Int → Bool → Option (ByteArray × Bool)
 | 0, _, _ => none
 | k + 1, x4, x7 => if x7 = true then (some ((⟨#[82, 65, 66]⟩ : ByteArray), true)) else (if x4 = 3 then (impl_form.j1 k x4 (x4 == 3)) else (impl_form.j1 k x4 (x4 == 4)))
def impl_form.j1 : Nat → Int → Bool → Option (ByteArray × Bool)
 | 0, _, _ => none
 | k + 1, x4, x10 => if x10 = true then (some ((⟨#[82, 65, 78]⟩ : ByteArray), true)) else (if x4 = 5 then (some ((⟨#[65, 66, 78]⟩ : ByteArray), true)) else (if x4 = 6 then (some ((⟨#[82, 65, 66, 78]⟩ : ByteArray), true)) else (if x4 = 7 then (some ((⟨#[65, 78]⟩ : ByteArray), true)) else (if x4 = 8 then (some ((⟨#[78]⟩ : ByteArray), true)) else (if x4 = 9 then (some ((⟨#[]⟩ : ByteArray), true)) else (some ((⟨#[]⟩ : ByteArray), false)))))))
end
def impl_form.f (k : Nat) (a0 : Int) : Option (ByteArray × Bool) := if a0 = 1 then (some ((⟨#[82, 78]⟩ : ByteArray), true)) else (if a0 = 2 then (impl_form.j0 k a0 (a0 == 2)) else (impl_form.j0 k a0 (a0 == 10)))
theorem impl_form.mono_l : ∀ k, (∀ y0 y1, LeO (impl_form.j0 k y0 y1) (impl_form.j0 (k + 1) y0 y1)) ∧ (∀ y0 y1, LeO (impl_form.j1 k y0 y1) (impl_form.j1 (k + 1) y0 y1))
 | 0 => ⟨fun _ _ r h => by simp [impl_form.j0] at h, fun _ _ r h => by simp [impl_form.j1] at h⟩
 | k + 1 => by
  obtain ⟨ih0, ih1⟩ := impl_form.mono_l k
  refine ⟨?_, ?_⟩
  ·intros
   unfold impl_form.j0
   exact zL
  ·intros
   unfold impl_form.j1
   exact zL
theorem impl_form.mono : ∀ a0 k, LeO (impl_form.f k a0) (impl_form.f (k + 1) a0) := by
 intro a0 k
 obtain ⟨ih0, ih1⟩ := impl_form.mono_l k
 unfold impl_form.f
 exact zL
theorem impl_form.calls (k : Nat) (a0 : Int) (r1 : ByteArray) (r2 : Bool) (w : World) (h : impl_form.f k a0 = some (r1, r2)) :
  Calls Try.prog 116 #[.int .i64 a0] w fun e w' => e = .returned (.tuple #[.string r1, .bool r2]) ∧ Drawn0 w w' := by
 unfold impl_form.f at h
 have H := h
 clear h
 by_cases c2 : a0 = 1
 ·rw [if_pos c2] at H
  have c2b0 : (a0 == 1) = true := beq_iff_eq.mpr c2
  have c2b1 : (a0 != 1) = false := bne_eq_false_iff_eq.mpr c2
  clear c2
  simp only [Option.some.injEq, Prod.mk.injEq] at H
  obtain ⟨rfl, rfl⟩ := H
  go_enter Try.func116, Try.ntmps116
  go_wp2
  go_ret2
  exact ⟨zJJ, zDD⟩
 rw [if_neg c2] at H
 have c2b0 : (a0 == 1) = false := beq_eq_false_iff_ne.mpr c2
 have c2b1 : (a0 != 1) = true := bne_iff_ne.mpr c2
 have HC3 := zM H
 clear H
 go_enter Try.func116, Try.ntmps116
 go_upto_if 7 with (fail)
 go_cut [7] (fun v7 wc => ∃ (kq : Nat) (x7_2 : Bool), v7 = .bool x7_2 ∧ Aside0 (impl_form.j0 kq a0 x7_2 = some (r1, r2)) ∧ Aside0 (kq ≤ k) ∧ Drawn0 w wc)
 case first =>
  have H := HC3.1
  clear HC3
  by_cases c4 : a0 = 2
  rotate_left
  ·rw [if_neg c4] at H
   have c4b0 : (a0 == 2) = false := beq_eq_false_iff_ne.mpr c4
   have c4b1 : (a0 != 2) = true := bne_iff_ne.mpr c4
   (first | rw [c4b0] | (simp only [i64_w, i32_w]; rw [c4b0]) | skip)
   have H' := zM H
   clear H
   go_wp2
   go_meet
   case rel => exact ⟨_, ((a0 == 10)), zJJ, H', ⟨by first | omega | exact Nat.le_refl _⟩, zDD⟩
  rw [if_pos c4] at H
  have c4b0 : (a0 == 2) = true := beq_iff_eq.mpr c4
  have c4b1 : (a0 != 2) = false := bne_eq_false_iff_eq.mpr c4
  clear c4
  (first | rw [c4b0] | (simp only [i64_w, i32_w]; rw [c4b0]) | skip)
  have H' := zM H
  clear H
  go_wp2
  go_meet
  case rel => exact ⟨_, ((a0 == 2)), zJJ, H', ⟨by first | omega | exact Nat.le_refl _⟩, zDD⟩
 case rest =>
  clear HC3
  obtain ⟨kq, x7_2, rfl, HA, HJ2, ⟨mc2, rfl⟩⟩ := hcut
  cases kq with
  | zero => exact absurd HA.1 (by simp [impl_form.j0])
  | succ kj2 =>
   have H := HA.1
   clear HA
   simp only [impl_form.j0] at H
   by_cases c5 : x7_2 = true
   ·subst c5
    rw [if_pos rfl] at H
    simp only [Option.some.injEq, Prod.mk.injEq] at H
    obtain ⟨rfl, rfl⟩ := H
    go_wp2
    go_ret2
    exact ⟨zJJ, zDD⟩
   replace c5 := Bool.eq_false_iff.mpr c5
   subst c5
   rw [if_neg zF] at H
   have HC6 := zM H
   clear H
   go_upto_if 10 with (fail)
   go_cut [10] (fun v10 wc => ∃ (kq : Nat) (x10_5 : Bool), v10 = .bool x10_5 ∧ Aside0 (impl_form.j1 kq a0 x10_5 = some (r1, r2)) ∧ Aside0 (kq ≤ kj2) ∧ Drawn0 w wc)
   case first =>
    have H := HC6.1
    clear HC6
    by_cases c7 : a0 = 3
    rotate_left
    ·rw [if_neg c7] at H
     have c7b0 : (a0 == 3) = false := beq_eq_false_iff_ne.mpr c7
     have c7b1 : (a0 != 3) = true := bne_iff_ne.mpr c7
     (first | rw [c7b0] | (simp only [i64_w, i32_w]; rw [c7b0]) | skip)
     have H' := zM H
     clear H
     go_wp2
     go_meet
     case rel => exact ⟨_, ((a0 == 4)), zJJ, H', ⟨by have := HJ2.1; first | omega | exact Nat.le_refl _⟩, zDD⟩
    rw [if_pos c7] at H
    have c7b0 : (a0 == 3) = true := beq_iff_eq.mpr c7
    have c7b1 : (a0 != 3) = false := bne_eq_false_iff_eq.mpr c7
    clear c7
    (first | rw [c7b0] | (simp only [i64_w, i32_w]; rw [c7b0]) | skip)
    have H' := zM H
    clear H
    go_wp2
    go_meet
    case rel => exact ⟨_, ((a0 == 3)), zJJ, H', ⟨by have := HJ2.1; first | omega | exact Nat.le_refl _⟩, zDD⟩
   case rest =>
    clear HC6
    obtain ⟨kq, x10_5, rfl, HA, HJ5, ⟨mc5, rfl⟩⟩ := hcut
    cases kq with
    | zero => exact absurd HA.1 (by simp [impl_form.j1])
    | succ kj5 =>
     have H := HA.1
     clear HA
     simp only [impl_form.j1] at H
     by_cases c8 : x10_5 = true
     ·subst c8
      rw [if_pos rfl] at H
      simp only [Option.some.injEq, Prod.mk.injEq] at H
      obtain ⟨rfl, rfl⟩ := H
      go_wp2
      go_ret2
      exact ⟨zJJ, zDD⟩
     replace c8 := Bool.eq_false_iff.mpr c8
     subst c8
     rw [if_neg zF] at H
     by_cases c9 : a0 = 5
     ·rw [if_pos c9] at H
      have c9b0 : (a0 == 5) = true := beq_iff_eq.mpr c9
      have c9b1 : (a0 != 5) = false := bne_eq_false_iff_eq.mpr c9
      clear c9
      simp only [Option.some.injEq, Prod.mk.injEq] at H
      obtain ⟨rfl, rfl⟩ := H
      go_wp2
      go_ret2
      exact ⟨zJJ, zDD⟩
     rw [if_neg c9] at H
     have c9b0 : (a0 == 5) = false := beq_eq_false_iff_ne.mpr c9
     have c9b1 : (a0 != 5) = true := bne_iff_ne.mpr c9
     by_cases c10 : a0 = 6
     ·rw [if_pos c10] at H
      have c10b0 : (a0 == 6) = true := beq_iff_eq.mpr c10
      have c10b1 : (a0 != 6) = false := bne_eq_false_iff_eq.mpr c10
      clear c10
      simp only [Option.some.injEq, Prod.mk.injEq] at H
      obtain ⟨rfl, rfl⟩ := H
      go_wp2
      go_ret2
      exact ⟨zJJ, zDD⟩
     rw [if_neg c10] at H
     have c10b0 : (a0 == 6) = false := beq_eq_false_iff_ne.mpr c10
     have c10b1 : (a0 != 6) = true := bne_iff_ne.mpr c10
     by_cases c11 : a0 = 7
     ·rw [if_pos c11] at H
      have c11b0 : (a0 == 7) = true := beq_iff_eq.mpr c11
      have c11b1 : (a0 != 7) = false := bne_eq_false_iff_eq.mpr c11
      clear c11
      simp only [Option.some.injEq, Prod.mk.injEq] at H
      obtain ⟨rfl, rfl⟩ := H
      go_wp2
      go_ret2
      exact ⟨zJJ, zDD⟩
     rw [if_neg c11] at H
     have c11b0 : (a0 == 7) = false := beq_eq_false_iff_ne.mpr c11
     have c11b1 : (a0 != 7) = true := bne_iff_ne.mpr c11
     by_cases c12 : a0 = 8
     ·rw [if_pos c12] at H
      have c12b0 : (a0 == 8) = true := beq_iff_eq.mpr c12
      have c12b1 : (a0 != 8) = false := bne_eq_false_iff_eq.mpr c12
      clear c12
      simp only [Option.some.injEq, Prod.mk.injEq] at H
      obtain ⟨rfl, rfl⟩ := H
      go_wp2
      go_ret2
      exact ⟨zJJ, zDD⟩
     rw [if_neg c12] at H
     have c12b0 : (a0 == 8) = false := beq_eq_false_iff_ne.mpr c12
     have c12b1 : (a0 != 8) = true := bne_iff_ne.mpr c12
     by_cases c13 : a0 = 9
     rotate_left
     ·rw [if_neg c13] at H
      have c13b0 : (a0 == 9) = false := beq_eq_false_iff_ne.mpr c13
      have c13b1 : (a0 != 9) = true := bne_iff_ne.mpr c13
      simp only [Option.some.injEq, Prod.mk.injEq] at H
      obtain ⟨rfl, rfl⟩ := H
      go_wp2
      go_ret2
      exact ⟨zJJ, zDD⟩
     rw [if_pos c13] at H
     have c13b0 : (a0 == 9) = true := beq_iff_eq.mpr c13
     have c13b1 : (a0 != 9) = false := bne_eq_false_iff_eq.mpr c13
     clear c13
     simp only [Option.some.injEq, Prod.mk.injEq] at H
     obtain ⟨rfl, rfl⟩ := H
     go_wp2
     go_ret2
     exact ⟨zJJ, zDD⟩

-- NOT PRINTED: function 117 (impl_Ins_place)

end Go.Proofs.Ytnjdepmlpdjghaa.PFnFinals
