-- made by wip/tools/myprint.py out of the seat's translation
import Derived.Test.YtnjdepmlpdjghaaPFnAllEndsx0
namespace Go.Proofs.Ytnjdepmlpdjghaa.PFnAllEnds
open Go.RowKit Go.Proofs.YtnjdepmlpdjghaaW.PrintWords Go.Proofs.YtnjdepmlpdjghaaW.PrintLast Go.Proofs.YtnjdepmlpdjghaaW.PrintMore
attribute [local go_sem] max2_int min2_int max_two min_two max_three min_three max_four min_four   -- for this text's walks alone
set_option linter.unusedVariables false
set_option linter.unusedSimpArgs false
set_option maxHeartbeats 8000000
set_option maxRecDepth 100000

/-! ### laws_big: function 10 -/
def laws_big.f (l0 : List Int) : Option (Bool) := some (decide ((l0.length : Int) > 1048576))
theorem laws_big.calls (A0 : Option Addr) (c0 : Nat) (l0 : List Int) (r : Bool) (w : World) (hr0 : Kd.C (Kd.int .u8) w A0 l0.length l0) (hc0 : l0.length ≤ c0) (h : laws_big.f l0 = some r) :
  Calls Try.prog 10 #[.slice A0 l0.length c0] w fun e w' => e = .returned (.bool r) ∧ Drawn0 w w' := by
 have HR0 := zM hr0
 have HC0 := zM hc0
 clear hr0 hc0
 unfold laws_big.f at h
 have H := h
 clear h
 obtain rfl := Option.some.inj H
 go_enter Try.func10, Try.ntmps10
 go_wp2
 go_ret
 exact ⟨zJJ, zDD⟩

/-! ### laws_at: function 14 -/
def laws_at.f (l0 : List Int) (a1 : Int) : Option (Int) := if a1 < (l0.length : Int) then (if 0 ≤ a1 then (some (wrap64 (rd l0 a1))) else (none)) else (some (Int.tmod (wrap64 ((wrap64 (a1 * 7)) + (l0.length : Int))) 256))
theorem laws_at.calls (A0 : Option Addr) (c0 : Nat) (l0 : List Int) (a1 : Int) (r : Int) (w : World) (hr0 : Kd.C (Kd.int .u8) w A0 l0.length l0) (hc0 : l0.length ≤ c0) (h : laws_at.f l0 a1 = some r) :
  Calls Try.prog 14 #[.slice A0 l0.length c0, .int .i64 a1] w fun e w' => e = .returned (.int .i64 r) ∧ Drawn0 w w' := by
 have HR0 := zM hr0
 have HC0 := zM hc0
 clear hr0 hc0
 unfold laws_at.f at h
 have H := h
 clear h
 by_cases c3 : a1 < (l0.length : Int)
 rotate_left
 ·rw [if_neg c3] at H
  have c3b0 := decide_eq_false c3
  clear c3
  obtain rfl := Option.some.inj H
  go_enter Try.func14, Try.ntmps14
  go_wp2
  go_ret
  exact ⟨zJJ, zDD⟩
 rw [if_pos c3] at H
 have c3b0 := decide_eq_true c3
 clear c3
 replace H := zIt H
 obtain ⟨c4b0, H⟩ := H
 obtain rfl := Option.some.inj H
 obtain ⟨p101, q101, ad101, e101, hx101_0⟩ := zRd (Kd.at_int HR0.1 a1)
 cases e101
 go_enter Try.func14, Try.ntmps14
 go_wp2
 go_ret
 exact ⟨zJJ, zDD⟩

/-! ### laws_sameInts: function 16 -/
def laws_sameInts.l0 : Nat → List Int → List Int → Int → Option (Bool)
 | 0, _, _, _ => none
 | k + 1, x0, x1, x5 => if x5 < (x0.length : Int) then (if 0 ≤ x5 then (if x5 < (x1.length : Int) then (if (rd x0 x5) = (rd x1 x5) then (laws_sameInts.l0 k x0 x1 (wrap64 (x5 + 1))) else (some false)) else (none)) else (none)) else (some true)
def laws_sameInts.f (k : Nat) (l0 : List Int) (l1 : List Int) : Option (Bool) := if (l0.length : Int) = (l1.length : Int) then (laws_sameInts.l0 k l0 l1 0) else (some false)
theorem laws_sameInts.mono_l : ∀ k, (∀ y0 y1 y2, LeO (laws_sameInts.l0 k y0 y1 y2) (laws_sameInts.l0 (k + 1) y0 y1 y2))
 | 0 => fun _ _ _ r h => by simp [laws_sameInts.l0] at h
 | k + 1 => by
  have ih0 := laws_sameInts.mono_l k
  ·intros
   unfold laws_sameInts.l0
   exact zL
theorem laws_sameInts.mono : ∀ a0 a1 k, LeO (laws_sameInts.f k a0 a1) (laws_sameInts.f (k + 1) a0 a1) := by
 intro a0 a1 k
 have ih0 := laws_sameInts.mono_l k
 unfold laws_sameInts.f
 exact zL
theorem laws_sameInts.calls (k : Nat) (A0 : Option Addr) (c0 : Nat) (l0 : List Int) (A1 : Option Addr) (c1 : Nat) (l1 : List Int) (r : Bool) (w : World) (hr0 : Kd.C (Kd.int .i64) w A0 l0.length l0) (hc0 : l0.length ≤ c0) (hr1 : Kd.C (Kd.int .i64) w A1 l1.length l1) (hc1 : l1.length ≤ c1) (h : laws_sameInts.f k l0 l1 = some r) :
  Calls Try.prog 16 #[.slice A0 l0.length c0, .slice A1 l1.length c1] w fun e w' => e = .returned (.bool r) ∧ Drawn0 w w' := by
 have HR0 := zM hr0
 have HC0 := zM hc0
 clear hr0 hc0
 have HR1 := zM hr1
 have HC1 := zM hc1
 clear hr1 hc1
 unfold laws_sameInts.f at h
 have H := h
 clear h
 by_cases c3 : (l0.length : Int) = (l1.length : Int)
 rotate_left
 ·rw [if_neg c3] at H
  have c3b0 : ((l0.length : Int) == (l1.length : Int)) = false := beq_eq_false_iff_ne.mpr c3
  have c3b1 : ((l0.length : Int) != (l1.length : Int)) = true := bne_iff_ne.mpr c3
  have c3b2 : (l0.length == l1.length) = false := by first | simpa using c3 | (simp at c3 ⊢; omega)
  obtain rfl := Option.some.inj H
  go_enter Try.func16, Try.ntmps16
  go_wp2
  repeat (go_quiet (fail); try go_wp2)
  go_ret
  exact ⟨zJJ, zDD⟩
 rw [if_pos c3] at H
 have c3b0 : ((l0.length : Int) == (l1.length : Int)) = true := beq_iff_eq.mpr c3
 have c3b1 : ((l0.length : Int) != (l1.length : Int)) = false := bne_eq_false_iff_eq.mpr c3
 have c3b2 : (l0.length == l1.length) = true := by first | simpa using c3 | (simp at c3 ⊢; omega)
 clear c3
 have H' := zM H
 clear H
 go_enter Try.func16, Try.ntmps16
 go_wp2
 repeat (go_quiet (fail); try go_wp2)
 go_loopg [5] k (fun kq v5 w' => ∃ (x5_1 : Int), v5 = .int .i64 x5_1 ∧ Aside0 (laws_sameInts.l0 kq l0 l1 x5_1 = some r) ∧ Aside0 (kq ≤ k) ∧ Drawn0 w w')
 case atStart => exact ⟨(0), zJJ, H', ⟨Nat.le_refl _⟩, zDD⟩
 case round =>
  clear H'
  obtain ⟨x5_1, rfl, HA, HK1, ⟨m1, rfl⟩⟩ := hrel
  cases gk with
  | zero => exact absurd HA.1 (by simp [laws_sameInts.l0])
  | succ k1 =>
   have H := HA.1
   clear HA
   simp only [laws_sameInts.l0] at H
   by_cases c4 : x5_1 < (l0.length : Int)
   rotate_left
   ·rw [if_neg c4] at H
    have c4b0 := decide_eq_false c4
    clear c4
    obtain rfl := Option.some.inj H
    go_wp2
    repeat (go_quiet (fail); try go_wp2)
    go_ret
    exact ⟨zJJ, zDD⟩
   rw [if_pos c4] at H
   have c4b0 := decide_eq_true c4
   clear c4
   replace H := zIt H
   obtain ⟨c5b0, H⟩ := H
   replace H := zIt H
   obtain ⟨c6b0, H⟩ := H
   by_cases c7 : (rd l0 x5_1) = (rd l1 x5_1)
   rotate_left
   ·rw [if_neg c7] at H
    have c7b0 : ((rd l0 x5_1) == (rd l1 x5_1)) = false := beq_eq_false_iff_ne.mpr c7
    have c7b1 : ((rd l0 x5_1) != (rd l1 x5_1)) = true := bne_iff_ne.mpr c7
    obtain rfl := Option.some.inj H
    obtain ⟨p102, q102, ad102, e102, hx102_0⟩ := zRd (Kd.at_int HR0.1 x5_1)
    cases e102
    obtain ⟨p103, q103, ad103, e103, hx103_0⟩ := zRd (Kd.at_int HR1.1 x5_1)
    cases e103
    go_wp2
    repeat (go_quiet (fail); try go_wp2)
    go_ret
    exact ⟨zJJ, zDD⟩
   rw [if_pos c7] at H
   have c7b0 : ((rd l0 x5_1) == (rd l1 x5_1)) = true := beq_iff_eq.mpr c7
   have c7b1 : ((rd l0 x5_1) != (rd l1 x5_1)) = false := bne_eq_false_iff_eq.mpr c7
   clear c7
   have H' := zM H
   clear H
   obtain ⟨p102, q102, ad102, e102, hx102_0⟩ := zRd (Kd.at_int HR0.1 x5_1)
   cases e102
   obtain ⟨p103, q103, ad103, e103, hx103_0⟩ := zRd (Kd.at_int HR1.1 x5_1)
   cases e103
   go_wp2
   repeat (go_quiet (fail); try go_wp2)
   go_roundg k1
   case measure => have := HK1.1; omega
   case rel => exact ⟨(wrap64 (x5_1 + 1)), zJJ, H', ⟨by have := HK1.1; omega⟩, zDD⟩

/-! ### spec_l1In: function 49 -/
def spec_l1In.f (a0 : Int) (a1 : Int) (a2 : Int) : Option (Bool) := if a0 ≥ a1 then (some (decide (a0 ≤ a2))) else (some false)
theorem spec_l1In.calls (a0 : Int) (a1 : Int) (a2 : Int) (r : Bool) (w : World) (h : spec_l1In.f a0 a1 a2 = some r) :
  Calls Try.prog 49 #[.int .i64 a0, .int .i64 a1, .int .i64 a2] w fun e w' => e = .returned (.bool r) ∧ Drawn0 w w' := by
 unfold spec_l1In.f at h
 have H := h
 clear h
 by_cases c4 : a0 ≥ a1
 ·rw [if_pos c4] at H
  have c4b0 := decide_eq_true c4
  clear c4
  obtain rfl := Option.some.inj H
  go_enter Try.func49, Try.ntmps49
  go_wp2
  go_ret
  exact ⟨zJJ, zDD⟩
 rw [if_neg c4] at H
 have c4b0 := decide_eq_false c4
 clear c4
 obtain rfl := Option.some.inj H
 go_enter Try.func49, Try.ntmps49
 go_wp2
 go_ret
 exact ⟨zJJ, zDD⟩

/-! ### spec_l1Words: function 53 -/
def spec_l1Words.l0 : Nat → List Int → Int → Int → Option (Bool)
 | 0, _, _, _ => none
 | k + 1, x0, x1, x5 => if x5 < (x0.length : Int) then (if 0 ≤ x5 then ((spec_l1In.f (rd x0 x5) 0 65535).bind fun t105 => (if t105 = true then (spec_l1Words.l0 k x0 x1 (wrap64 (x5 + 1))) else (some false))) else (none)) else (some ((x0.length : Int) == x1))
def spec_l1Words.f (k : Nat) (l0 : List Int) (a1 : Int) : Option (Bool) := spec_l1Words.l0 k l0 a1 0
theorem spec_l1Words.mono_l : ∀ k, (∀ y0 y1 y2, LeO (spec_l1Words.l0 k y0 y1 y2) (spec_l1Words.l0 (k + 1) y0 y1 y2))
 | 0 => fun _ _ _ r h => by simp [spec_l1Words.l0] at h
 | k + 1 => by
  have ih0 := spec_l1Words.mono_l k
  ·intros
   unfold spec_l1Words.l0
   exact zL
theorem spec_l1Words.mono : ∀ a0 a1 k, LeO (spec_l1Words.f k a0 a1) (spec_l1Words.f (k + 1) a0 a1) := by
 intro a0 a1 k
 have ih0 := spec_l1Words.mono_l k
 unfold spec_l1Words.f
 exact zL
theorem spec_l1Words.calls (k : Nat) (A0 : Option Addr) (c0 : Nat) (l0 : List Int) (a1 : Int) (r : Bool) (w : World) (hr0 : Kd.C (Kd.int .i64) w A0 l0.length l0) (hc0 : l0.length ≤ c0) (h : spec_l1Words.f k l0 a1 = some r) :
  Calls Try.prog 53 #[.slice A0 l0.length c0, .int .i64 a1] w fun e w' => e = .returned (.bool r) ∧ Drawn0 w w' := by
 have HR0 := zM hr0
 have HC0 := zM hc0
 clear hr0 hc0
 unfold spec_l1Words.f at h
 have H := h
 clear h
 have H' := zM H
 clear H
 go_enter Try.func53, Try.ntmps53
 go_wp2
 go_loopg [5] k (fun kq v5 w' => ∃ (x5_1 : Int), v5 = .int .i64 x5_1 ∧ Aside0 (spec_l1Words.l0 kq l0 a1 x5_1 = some r) ∧ Aside0 (kq ≤ k) ∧ Drawn0 w w')
 case atStart => exact ⟨(0), zJJ, H', ⟨Nat.le_refl _⟩, zDD⟩
 case round =>
  clear H'
  obtain ⟨x5_1, rfl, HA, HK1, ⟨m1, rfl⟩⟩ := hrel
  cases gk with
  | zero => exact absurd HA.1 (by simp [spec_l1Words.l0])
  | succ k1 =>
   have H := HA.1
   clear HA
   simp only [spec_l1Words.l0] at H
   by_cases c3 : x5_1 < (l0.length : Int)
   rotate_left
   ·rw [if_neg c3] at H
    have c3b0 := decide_eq_false c3
    clear c3
    obtain rfl := Option.some.inj H
    go_wp2
    go_ret
    exact ⟨zJJ, zDD⟩
   rw [if_pos c3] at H
   have c3b0 := decide_eq_true c3
   clear c3
   replace H := zIt H
   obtain ⟨c4b0, H⟩ := H
   replace H := zO H
   obtain ⟨t105, A5, H⟩ := H
   by_cases c6 : t105 = true
   rotate_left
   ·replace c6 := Bool.eq_false_iff.mpr c6
    subst c6
    rw [if_neg zF] at H
    obtain rfl := Option.some.inj H
    obtain ⟨p104, q104, ad104, e104, hx104_0⟩ := zRd (Kd.at_int HR0.1 x5_1)
    cases e104
    go_wp2_with (first | ((with_reducible refine zG Try.func49 16 #[.int .i64 (rd l0 x5_1), .int .i64 0, .int .i64 65535] ?_); (with_reducible refine (spec_l1In.calls (rd l0 x5_1) 0 65535 false _ A5.1).mono ?_); rintro e w' ⟨rfl, ⟨nd, rfl⟩⟩; refine ⟨_, rfl, ?_⟩))
    go_ret
    exact ⟨zJJ, zDD⟩
   subst c6
   rw [if_pos rfl] at H
   have H' := zM H
   clear H
   obtain ⟨p104, q104, ad104, e104, hx104_0⟩ := zRd (Kd.at_int HR0.1 x5_1)
   cases e104
   go_wp2_with (first | ((with_reducible refine zG Try.func49 16 #[.int .i64 (rd l0 x5_1), .int .i64 0, .int .i64 65535] ?_); (with_reducible refine (spec_l1In.calls (rd l0 x5_1) 0 65535 true _ A5.1).mono ?_); rintro e w' ⟨rfl, ⟨nd, rfl⟩⟩; refine ⟨_, rfl, ?_⟩))
   go_roundg k1
   case measure => have := HK1.1; omega
   case rel => exact ⟨(wrap64 (x5_1 + 1)), zJJ, H', ⟨by have := HK1.1; omega⟩, zDD⟩

/-! ### spec_HartOk: function 52 -/
def spec_HartOk.f (k : Nat) (l0_0 : List Int) (a0_1 : Int) (a0_2 : Int) : Option (Bool) := (spec_l1Words.f k l0_0 4).bind fun t107 => (if t107 = true then ((spec_l1In.f a0_1 0 23).bind fun t108 => (if t108 = true then ((spec_l1In.f a0_2 0 2).bind fun t109 => (some t109)) else (some false))) else (some false))
theorem spec_HartOk.mono : ∀ a0 a1 a2 k, LeO (spec_HartOk.f k a0 a1 a2) (spec_HartOk.f (k + 1) a0 a1 a2) := by
 intro a0 a1 a2 k
 unfold spec_HartOk.f
 have mo0 := @spec_l1Words.mono
 exact zL
theorem spec_HartOk.calls (k : Nat) (A0_0 : Option Addr) (c0_0 : Nat) (l0_0 : List Int) (a0_1 : Int) (a0_2 : Int) (r : Bool) (w : World) (hr0_0 : Kd.C (Kd.int .i64) w A0_0 l0_0.length l0_0) (hc0_0 : l0_0.length ≤ c0_0) (h : spec_HartOk.f k l0_0 a0_1 a0_2 = some r) :
  Calls Try.prog 52 #[.agg #[.slice A0_0 l0_0.length c0_0, .int .i64 a0_1, .int .i64 a0_2]] w fun e w' => e = .returned (.bool r) ∧ Below w.heap.size w w' := by
 have hu29 := Try.underlying29
 have HR0_0 := zM hr0_0
 have HC0_0 := zM hc0_0
 clear hr0_0 hc0_0
 have HB := zM (Below.refl w.heap.size w)
 unfold spec_HartOk.f at h
 have H := h
 clear h
 replace H := zO H
 obtain ⟨t107, A2, H⟩ := H
 by_cases c3 : t107 = true
 rotate_left
 ·replace c3 := Bool.eq_false_iff.mpr c3
  subst c3
  rw [if_neg zF] at H
  obtain rfl := Option.some.inj H
  go_enter Try.func52, Try.ntmps52
  go_wp2_with (first | ((with_reducible refine zBx 1 29 #[.slice A0_0 l0_0.length c0_0, .int .i64 a0_1, .int .i64 a0_2] ?_); intro gb106 hg w11 hbox hb; have BK106 := zM hbox; have GW106 := zM (zW hg (below_size zB0)); have GE106 := zM (zW hg (below_size zB0)); replace HB := zM (below_step zB0 hb); clear hb hbox hg; have hcz12 := zc_3 (w := w11) BK106.1) | ((with_reducible refine zG Try.func53 5 #[.slice A0_0 l0_0.length c0_0, .int .i64 4] ?_); (with_reducible refine (spec_l1Words.calls k _ _ l0_0 4 false _ ?side1 ?side2 A2.1).mono ?_); (case side1 => exact zC (Kd.C_below HR0_0.1 HB.1)); (case side2 => exact HC0_0.1); rintro e w' ⟨rfl, ⟨nd, rfl⟩⟩; refine ⟨_, rfl, ?_⟩))
  go_ret
  exact ⟨zE, zB0⟩
 subst c3
 rw [if_pos rfl] at H
 replace H := zO H
 obtain ⟨t108, A4, H⟩ := H
 by_cases c5 : t108 = true
 rotate_left
 ·replace c5 := Bool.eq_false_iff.mpr c5
  subst c5
  rw [if_neg zF] at H
  obtain rfl := Option.some.inj H
  go_enter Try.func52, Try.ntmps52
  go_wp2_with (first | ((with_reducible refine zBx 1 29 #[.slice A0_0 l0_0.length c0_0, .int .i64 a0_1, .int .i64 a0_2] ?_); intro gb106 hg w9 hbox hb; have BK106 := zM hbox; have GW106 := zM (zW hg (below_size zB0)); have GE106 := zM (zW hg (below_size zB0)); replace HB := zM (below_step zB0 hb); clear hb hbox hg; have hcz10 := zc_3 (w := w9) BK106.1) | ((with_reducible refine zG Try.func53 5 #[.slice A0_0 l0_0.length c0_0, .int .i64 4] ?_); (with_reducible refine (spec_l1Words.calls k _ _ l0_0 4 true _ ?side1 ?side2 A2.1).mono ?_); (case side1 => exact zC (Kd.C_below HR0_0.1 HB.1)); (case side2 => exact HC0_0.1); rintro e w' ⟨rfl, ⟨nd, rfl⟩⟩; refine ⟨_, rfl, ?_⟩) | (go_at_call 49; (with_reducible refine (spec_l1In.calls a0_1 0 23 false _ A4.1).mono ?_); rintro e w' ⟨rfl, ⟨nd, rfl⟩⟩))
  go_ret
  exact ⟨zE, zB0⟩
 subst c5
 rw [if_pos rfl] at H
 replace H := zO H
 obtain ⟨t109, A6, H⟩ := H
 obtain rfl := Option.some.inj H
 go_enter Try.func52, Try.ntmps52
 go_wp2_with (first | ((with_reducible refine zBx 1 29 #[.slice A0_0 l0_0.length c0_0, .int .i64 a0_1, .int .i64 a0_2] ?_); intro gb106 hg w7 hbox hb; have BK106 := zM hbox; have GW106 := zM (zW hg (below_size zB0)); have GE106 := zM (zW hg (below_size zB0)); replace HB := zM (below_step zB0 hb); clear hb hbox hg; have hcz8 := zc_3 (w := w7) BK106.1) | ((with_reducible refine zG Try.func53 5 #[.slice A0_0 l0_0.length c0_0, .int .i64 4] ?_); (with_reducible refine (spec_l1Words.calls k _ _ l0_0 4 true _ ?side1 ?side2 A2.1).mono ?_); (case side1 => exact zC (Kd.C_below HR0_0.1 HB.1)); (case side2 => exact HC0_0.1); rintro e w' ⟨rfl, ⟨nd, rfl⟩⟩; refine ⟨_, rfl, ?_⟩) | (go_at_call 49; (with_reducible refine (spec_l1In.calls a0_1 0 23 true _ A4.1).mono ?_); rintro e w' ⟨rfl, ⟨nd, rfl⟩⟩) | (go_at_call 49; (with_reducible refine (spec_l1In.calls a0_2 0 2 t109 _ A6.1).mono ?_); rintro e w' ⟨rfl, ⟨nd, rfl⟩⟩))
 go_ret
 exact ⟨zE, zB0⟩

/-! ### spec_l9Copy: function 104 -/
def spec_l9Copy.f (l0_0 : List Int) (a0_1 : Int) (a0_2 : Int) : Option (List Int × Int × Int) := (some (([] : List Int) : List Int)).bind fun y112 => (if y112.length + l0_0.length < 17592186044416 then (some ((y112 ++ l0_0), a0_1, a0_2)) else (none))
theorem spec_l9Copy.calls (A0_0 : Option Addr) (c0_0 : Nat) (l0_0 : List Int) (a0_1 : Int) (a0_2 : Int) (r1 : List Int) (r2 : Int) (r3 : Int) (w : World) (hr0_0 : Kd.C (Kd.int .i64) w A0_0 l0_0.length l0_0) (hc0_0 : l0_0.length ≤ c0_0) (h : spec_l9Copy.f l0_0 a0_1 a0_2 = some (r1, r2, r3)) :
  Calls Try.prog 104 #[.agg #[.slice A0_0 l0_0.length c0_0, .int .i64 a0_1, .int .i64 a0_2]] w fun e w' => ∃ v0_ : Value, e = .returned (.agg #[v0_, .int .i64 r2, .int .i64 r3]) ∧ Kd.R (Kd.int .i64) 3 w' w.heap.size (fun _ => True) v0_ r1 ∧ Below w.heap.size w w' := by
 have hu29 := Try.underlying29
 have HR0_0 := zM hr0_0
 have HC0_0 := zM hc0_0
 clear hr0_0 hc0_0
 have HB := zM (Below.refl w.heap.size w)
 unfold spec_l9Copy.f at h
 have H := h
 clear h
 replace H := zY H
 obtain ⟨y112, Ny112, H⟩ := H
 replace H := zIn H
 obtain ⟨LMc2, H⟩ := H
 generalize hy115 : ((y112 ++ l0_0) : List Int) = y115 at H
 have Ny115 := zM hy115.symm
 clear hy115
 simp only [Option.some.injEq, Prod.mk.injEq] at H
 obtain ⟨rfl, rfl, rfl⟩ := H
 go_enter Try.func104, Try.ntmps104
 go_wp2_with (first | ((with_reducible refine zBx 1 29 #[.slice A0_0 l0_0.length c0_0, .int .i64 a0_1, .int .i64 a0_2] ?_); intro gb110 hg w3 hbox hb; have BK110 := zM hbox; have GW110 := zM (zW hg (below_size zB0)); have GE110 := zM (zW hg (below_size zB0)); replace HB := zM (below_step zB0 hb); clear hb hbox hg) | ((with_reducible refine zBx 2 29 #[.slice none 0 0, .int .i64 0, .int .i64 0] ?_); intro gb111 hg w4 hbox hb; have BK111 := zM hbox; have GW111 := zM (zW hg (below_size zB0)); have GE111 := zM (zW hg (below_size zB0)); replace HB := zM (below_step zB0 hb); have NB110_111 := zM ((zn BK110.1 hg : gb110 ≠ gb111)); have NB111_110 := zM ((zm BK110.1 hg : gb111 ≠ gb110)); replace BK110 := zM (zb BK110.1 hb); clear hb hbox hg) | ((with_reducible refine gate_dst (N := 3) rfl ?_); refine Kd.R_lit (Kd.int .i64) _ 3 ?hg (N := 3) ?hd (xs := ([] : List Int)) (inner := []) (ok := fun _ => True) (okp := fun _ => True) ?hr ?hp (fun _ hk => hk) trivial (Below.refl _ _) (Nat.le_refl _) (by simp) ?_; (case hd => rfl); (case hg => rfl); (case hr => exact zHH); (case hp => exact (Reps.none _ _)); intro v113 w5 ho6 hb hg_ hnew_; clear hg_ hnew_; (first | rw [← Ny112.1] at ho6 | (simp only [Int.reduceToNat] at ho6; rw [← Ny112.1] at ho6)); have HO114 := zM (Kd.R_lower ho6 (below_size zB0)); replace BK110 := zM (zb BK110.1 hb); replace BK111 := zM (zb BK111.1 hb); replace HB := zM (below_step zB0 hb); clear hb ho6; have hnb7 := NB110_111.1; have hnc7 := NB111_110.1; have hcz8 := zc_3 (w := w5) BK110.1) | ((with_reducible refine gate_builtin (b := .append) (xs := #[.tmp 3, .tmp 5]) rfl ?_); at_builtin; refine Kd.R_append_rows (Kd.int .i64) (w0 := w) w.heap.size rfl (.tmp 3) (.tmp 5) 24 3 (.int .i64 0) 8 rfl Try.underlying24 info3 rfl (by decide) (by omega) v113 y112 l0_0 _ _ _ (fun _ => True) (fun _ => False) rfl rfl ?aO ?aR (fun _ _ h => h) (fun _ h => h.elim) ?aF ?aB ?aS ?aL ?_; (case aR => exact zC (Kd.C_below HR0_0.1 HB.1)); (case aB => exact zB0); (case aF => exact (fun _ _ => trivial)); (case aO => exact (zR HO114.1)); (case aS => exact (below_size zB0)); (case aL => have := LMc2.out; omega); intro v116 w9 ho hb hg hat; rw [← Ny115.1] at ho; replace BK110 := zM (zg BK110.1 hg (Kd.R_ne HO114.1 BK110.1 (by decide))); replace BK111 := zM (zg BK111.1 hg (Kd.R_ne HO114.1 BK111.1 (by decide))); replace HB := zM hb; have HO117 := zM ho; clear HO114; clear ho hb hg hat; obtain ⟨Ao10, co10, eo10⟩ := Kd.R_slice HO117.1; subst eo10; have hcz11 := zc_3 (w := w9) BK110.1; have hcz12 := zc_3 (w := w9) BK111.1))
 refine bodyPost_ret (results_cell_row rfl _ _ gb111 29 #[.slice Ao10 y115.length co10, .int .i64 a0_1, .int .i64 a0_2] (0, 0) _ rfl zPq Try.underlying29 rfl (by kernel_rfl)) rfl ?_
 exact ⟨_, zE, by refine zrR ?_; exact Kd.R_mono (zfR (zfR (zfR (zgR (Kd.R_types (Kd.R_types HO117.1 BK110.1 (by decide)) BK111.1 (by decide)))))) (fun _ hk => trivial), zB0⟩

/-! ### spec_l8Has: function 131 -/
def spec_l8Has.f (a0 : Int) : Option (Int) := (spec_l1In.f a0 1 10).bind fun t118 => (if t118 = true then ((some (([0, 9, 7, 11, 11, 14, 15, 10, 8, 0, 7] : List Int) : List Int)).bind fun y119 => (if 0 ≤ a0 then (if a0 < (y119.length : Int) then (some (rd y119 a0)) else (none)) else (none))) else (some 0))
theorem spec_l8Has.calls (a0 : Int) (r : Int) (w : World) (h : spec_l8Has.f a0 = some r) :
  Calls Try.prog 131 #[.int .i64 a0] w fun e w' => e = .returned (.int .i64 r) ∧ Below w.heap.size w w' := by
 have HB := zM (Below.refl w.heap.size w)
 unfold spec_l8Has.f at h
 have H := h
 clear h
 replace H := zO H
 obtain ⟨t118, A2, H⟩ := H
 by_cases c3 : t118 = true
 rotate_left
 ·replace c3 := Bool.eq_false_iff.mpr c3
  subst c3
  rw [if_neg zF] at H
  obtain rfl := Option.some.inj H
  go_enter Try.func131, Try.ntmps131
  go_wp2_with (first | ((with_reducible refine zG Try.func49 4 #[.int .i64 a0, .int .i64 1, .int .i64 10] ?_); (with_reducible refine (spec_l1In.calls a0 1 10 false _ A2.1).mono ?_); rintro e w' ⟨rfl, ⟨nd, rfl⟩⟩; refine ⟨_, rfl, ?_⟩))
  go_ret
  exact ⟨zE, zB0⟩
 subst c3
 rw [if_pos rfl] at H
 replace H := zY H
 obtain ⟨y119, Ny119, H⟩ := H
 replace H := zIt H
 obtain ⟨c4b0, H⟩ := H
 replace H := zIt H
 obtain ⟨c5b0, H⟩ := H
 obtain rfl := Option.some.inj H
 go_enter Try.func131, Try.ntmps131
 go_wp2_with (first | ((with_reducible refine zG Try.func49 4 #[.int .i64 a0, .int .i64 1, .int .i64 10] ?_); (with_reducible refine (spec_l1In.calls a0 1 10 true _ A2.1).mono ?_); rintro e w' ⟨rfl, ⟨nd, rfl⟩⟩; refine ⟨_, rfl, ?_⟩) | ((with_reducible refine gate_dst (N := 6) rfl ?_); refine Kd.R_lit (Kd.int .i64) _ 3 ?hg (N := 6) ?hd (xs := ([0, 9, 7, 11, 11, 14, 15, 10, 8, 0, 7] : List Int)) (inner := [.int .i64 0, .int .i64 9, .int .i64 7, .int .i64 11, .int .i64 11, .int .i64 14, .int .i64 15, .int .i64 10, .int .i64 8, .int .i64 0, .int .i64 7]) (ok := fun _ => True) (okp := fun _ => True) ?hr ?hp (fun _ hk => hk) trivial (Below.refl _ _) (Nat.le_refl _) (by simp) ?_; (case hd => rfl); (case hg => rfl); (case hr => exact zHH); (case hp => exact (Reps.one (show Kd.M (Kd.int .i64) _ _ _ 0 [.int .i64 0] from rfl) (Reps.one (show Kd.M (Kd.int .i64) _ _ _ 9 [.int .i64 9] from rfl) (Reps.one (show Kd.M (Kd.int .i64) _ _ _ 7 [.int .i64 7] from rfl) (Reps.one (show Kd.M (Kd.int .i64) _ _ _ 11 [.int .i64 11] from rfl) (Reps.one (show Kd.M (Kd.int .i64) _ _ _ 11 [.int .i64 11] from rfl) (Reps.one (show Kd.M (Kd.int .i64) _ _ _ 14 [.int .i64 14] from rfl) (Reps.one (show Kd.M (Kd.int .i64) _ _ _ 15 [.int .i64 15] from rfl) (Reps.one (show Kd.M (Kd.int .i64) _ _ _ 10 [.int .i64 10] from rfl) (Reps.one (show Kd.M (Kd.int .i64) _ _ _ 8 [.int .i64 8] from rfl) (Reps.one (show Kd.M (Kd.int .i64) _ _ _ 0 [.int .i64 0] from rfl) (Reps.one (show Kd.M (Kd.int .i64) _ _ _ 7 [.int .i64 7] from rfl) (Reps.none _ _))))))))))))); intro v120 w6 ho7 hb hg_ hnew_; clear hg_ hnew_; (first | rw [← Ny119.1] at ho7 | (simp only [Int.reduceToNat] at ho7; rw [← Ny119.1] at ho7)); have HO121 := zM (Kd.R_lower ho7 (below_size zB0)); replace HB := zM (below_step zB0 hb); clear hb ho7; obtain ⟨Ao8, co8, eo8⟩ := Kd.R_slice HO121.1; subst eo8; obtain ⟨p122, q122, ad122, e122, hx122_0⟩ := zRd (Kd.at_int (Kd.R_reads' HO121.1).2.2 a0); cases e122))
 go_ret
 exact ⟨zE, zB0⟩

/-! ### spec_l8Field: function 132 -/
def spec_l8Field.f (a0 : Int) (a1 : Int) (a2 : Bool) : Option (Bool) := (spec_l1In.f a0 0 a1).bind fun t123 => (if t123 = true then (if a2 = true then (some true) else (some (a0 == 0))) else (some false))
theorem spec_l8Field.calls (a0 : Int) (a1 : Int) (a2 : Bool) (r : Bool) (w : World) (h : spec_l8Field.f a0 a1 a2 = some r) :
  Calls Try.prog 132 #[.int .i64 a0, .int .i64 a1, .bool a2] w fun e w' => e = .returned (.bool r) ∧ Drawn0 w w' := by
 unfold spec_l8Field.f at h
 have H := h
 clear h
 replace H := zO H
 obtain ⟨t123, A4, H⟩ := H
 by_cases c5 : t123 = true
 rotate_left
 ·replace c5 := Bool.eq_false_iff.mpr c5
  subst c5
  rw [if_neg zF] at H
  obtain rfl := Option.some.inj H
  go_enter Try.func132, Try.ntmps132
  go_wp2_with (first | ((with_reducible refine zG Try.func49 9 #[.int .i64 a0, .int .i64 0, .int .i64 a1] ?_); (with_reducible refine (spec_l1In.calls a0 0 a1 false _ A4.1).mono ?_); rintro e w' ⟨rfl, ⟨nd, rfl⟩⟩; refine ⟨_, rfl, ?_⟩))
  go_ret
  exact ⟨zJJ, zDD⟩
 subst c5
 rw [if_pos rfl] at H
 by_cases c6 : a2 = true
 ·subst c6
  rw [if_pos rfl] at H
  obtain rfl := Option.some.inj H
  go_enter Try.func132, Try.ntmps132
  go_wp2_with (first | ((with_reducible refine zG Try.func49 9 #[.int .i64 a0, .int .i64 0, .int .i64 a1] ?_); (with_reducible refine (spec_l1In.calls a0 0 a1 true _ A4.1).mono ?_); rintro e w' ⟨rfl, ⟨nd, rfl⟩⟩; refine ⟨_, rfl, ?_⟩))
  go_ret
  exact ⟨zJJ, zDD⟩
 replace c6 := Bool.eq_false_iff.mpr c6
 subst c6
 rw [if_neg zF] at H
 obtain rfl := Option.some.inj H
 go_enter Try.func132, Try.ntmps132
 go_wp2_with (first | ((with_reducible refine zG Try.func49 9 #[.int .i64 a0, .int .i64 0, .int .i64 a1] ?_); (with_reducible refine (spec_l1In.calls a0 0 a1 true _ A4.1).mono ?_); rintro e w' ⟨rfl, ⟨nd, rfl⟩⟩; refine ⟨_, rfl, ?_⟩))
 go_ret
 exact ⟨zJJ, zDD⟩

/-! ### spec_InsOk: function 124 -/
def spec_InsOk.f (a0_0 : Int) (a0_1 : Int) (a0_2 : Int) (a0_3 : Int) (a0_4 : Int) : Option (Bool) := (spec_l8Has.f a0_0).bind fun t125 => ((spec_l1In.f a0_0 1 10).bind fun t126 => (if t126 = true then ((spec_l8Field.f a0_1 3 ((Go.bits .and .i64 t125 1) != 0)).bind fun t127 => (if t127 = true then ((spec_l8Field.f a0_2 3 ((Go.bits .and .i64 t125 2) != 0)).bind fun t128 => (if t128 = true then ((spec_l8Field.f a0_3 3 ((Go.bits .and .i64 t125 4) != 0)).bind fun t129 => (if t129 = true then ((spec_l8Field.f a0_4 63 ((Go.bits .and .i64 t125 8) != 0)).bind fun t130 => (some t130)) else (some false))) else (some false))) else (some false))) else (some false)))
theorem spec_InsOk.calls (a0_0 : Int) (a0_1 : Int) (a0_2 : Int) (a0_3 : Int) (a0_4 : Int) (r : Bool) (w : World) (h : spec_InsOk.f a0_0 a0_1 a0_2 a0_3 a0_4 = some r) :
  Calls Try.prog 124 #[.agg #[.int .i64 a0_0, .int .i64 a0_1, .int .i64 a0_2, .int .i64 a0_3, .int .i64 a0_4]] w fun e w' => e = .returned (.bool r) ∧ Below w.heap.size w w' := by
 have hu59 := Try.underlying59
 have HB := zM (Below.refl w.heap.size w)
 unfold spec_InsOk.f at h
 have H := h
 clear h
 replace H := zO H
 obtain ⟨t125, A2, H⟩ := H
 replace H := zO H
 obtain ⟨t126, A3, H⟩ := H
 by_cases c4 : t126 = true
 rotate_left
 ·replace c4 := Bool.eq_false_iff.mpr c4
  subst c4
  rw [if_neg zF] at H
  obtain rfl := Option.some.inj H
  go_enter Try.func124, Try.ntmps124
  go_wp2_with (first | ((with_reducible refine zBx 1 59 #[.int .i64 a0_0, .int .i64 a0_1, .int .i64 a0_2, .int .i64 a0_3, .int .i64 a0_4] ?_); intro gb124 hg w28 hbox hb; have BK124 := zM hbox; have GW124 := zM (zW hg (below_size zB0)); have GE124 := zM (zW hg (below_size zB0)); replace HB := zM (below_step zB0 hb); clear hb hbox hg; have hcz29 := zc_5 (w := w28) BK124.1) | ((with_reducible refine zG Try.func131 6 #[.int .i64 a0_0] ?_); (with_reducible refine (spec_l8Has.calls a0_0 t125 _ A2.1).mono ?_); rintro e w30 ⟨rfl, hb⟩; refine ⟨_, rfl, ?_⟩; replace BK124 := zM (zb BK124.1 hb); replace HB := zM (below_step zB0 hb); clear hb; have hcz31 := zc_5 (w := w30) BK124.1) | ((with_reducible refine zG Try.func49 9 #[.int .i64 a0_0, .int .i64 1, .int .i64 10] ?_); (with_reducible refine (spec_l1In.calls a0_0 1 10 false _ A3.1).mono ?_); rintro e w' ⟨rfl, ⟨nd, rfl⟩⟩; refine ⟨_, rfl, ?_⟩))
  go_ret
  exact ⟨zE, zB0⟩
 subst c4
 rw [if_pos rfl] at H
 replace H := zO H
 obtain ⟨t127, A5, H⟩ := H
 by_cases c6 : t127 = true
 rotate_left
 ·replace c6 := Bool.eq_false_iff.mpr c6
  subst c6
  rw [if_neg zF] at H
  obtain rfl := Option.some.inj H
  go_enter Try.func124, Try.ntmps124
  go_wp2_with (first | ((with_reducible refine zBx 1 59 #[.int .i64 a0_0, .int .i64 a0_1, .int .i64 a0_2, .int .i64 a0_3, .int .i64 a0_4] ?_); intro gb124 hg w24 hbox hb; have BK124 := zM hbox; have GW124 := zM (zW hg (below_size zB0)); have GE124 := zM (zW hg (below_size zB0)); replace HB := zM (below_step zB0 hb); clear hb hbox hg; have hcz25 := zc_5 (w := w24) BK124.1) | ((with_reducible refine zG Try.func131 6 #[.int .i64 a0_0] ?_); (with_reducible refine (spec_l8Has.calls a0_0 t125 _ A2.1).mono ?_); rintro e w26 ⟨rfl, hb⟩; refine ⟨_, rfl, ?_⟩; replace BK124 := zM (zb BK124.1 hb); replace HB := zM (below_step zB0 hb); clear hb; have hcz27 := zc_5 (w := w26) BK124.1) | ((with_reducible refine zG Try.func49 9 #[.int .i64 a0_0, .int .i64 1, .int .i64 10] ?_); (with_reducible refine (spec_l1In.calls a0_0 1 10 true _ A3.1).mono ?_); rintro e w' ⟨rfl, ⟨nd, rfl⟩⟩; refine ⟨_, rfl, ?_⟩) | (go_at_call 132; (with_reducible refine (spec_l8Field.calls a0_1 3 ((Go.bits .and .i64 t125 1) != 0) false _ A5.1).mono ?_); rintro e w' ⟨rfl, ⟨nd, rfl⟩⟩))
  go_ret
  exact ⟨zE, zB0⟩
 subst c6
 rw [if_pos rfl] at H
 replace H := zO H
 obtain ⟨t128, A7, H⟩ := H
 by_cases c8 : t128 = true
 rotate_left
 ·replace c8 := Bool.eq_false_iff.mpr c8
  subst c8
  rw [if_neg zF] at H
  obtain rfl := Option.some.inj H
  go_enter Try.func124, Try.ntmps124
  go_wp2_with (first | ((with_reducible refine zBx 1 59 #[.int .i64 a0_0, .int .i64 a0_1, .int .i64 a0_2, .int .i64 a0_3, .int .i64 a0_4] ?_); intro gb124 hg w20 hbox hb; have BK124 := zM hbox; have GW124 := zM (zW hg (below_size zB0)); have GE124 := zM (zW hg (below_size zB0)); replace HB := zM (below_step zB0 hb); clear hb hbox hg; have hcz21 := zc_5 (w := w20) BK124.1) | ((with_reducible refine zG Try.func131 6 #[.int .i64 a0_0] ?_); (with_reducible refine (spec_l8Has.calls a0_0 t125 _ A2.1).mono ?_); rintro e w22 ⟨rfl, hb⟩; refine ⟨_, rfl, ?_⟩; replace BK124 := zM (zb BK124.1 hb); replace HB := zM (below_step zB0 hb); clear hb; have hcz23 := zc_5 (w := w22) BK124.1) | ((with_reducible refine zG Try.func49 9 #[.int .i64 a0_0, .int .i64 1, .int .i64 10] ?_); (with_reducible refine (spec_l1In.calls a0_0 1 10 true _ A3.1).mono ?_); rintro e w' ⟨rfl, ⟨nd, rfl⟩⟩; refine ⟨_, rfl, ?_⟩) | (go_at_call 132; (with_reducible refine (spec_l8Field.calls a0_1 3 ((Go.bits .and .i64 t125 1) != 0) true _ A5.1).mono ?_); rintro e w' ⟨rfl, ⟨nd, rfl⟩⟩) | (go_at_call 132; (with_reducible refine (spec_l8Field.calls a0_2 3 ((Go.bits .and .i64 t125 2) != 0) false _ A7.1).mono ?_); rintro e w' ⟨rfl, ⟨nd, rfl⟩⟩))
  go_ret
  exact ⟨zE, zB0⟩
 subst c8
 rw [if_pos rfl] at H
 replace H := zO H
 obtain ⟨t129, A9, H⟩ := H
 by_cases c10 : t129 = true
 rotate_left
 ·replace c10 := Bool.eq_false_iff.mpr c10
  subst c10
  rw [if_neg zF] at H
  obtain rfl := Option.some.inj H
  go_enter Try.func124, Try.ntmps124
  go_wp2_with (first | ((with_reducible refine zBx 1 59 #[.int .i64 a0_0, .int .i64 a0_1, .int .i64 a0_2, .int .i64 a0_3, .int .i64 a0_4] ?_); intro gb124 hg w16 hbox hb; have BK124 := zM hbox; have GW124 := zM (zW hg (below_size zB0)); have GE124 := zM (zW hg (below_size zB0)); replace HB := zM (below_step zB0 hb); clear hb hbox hg; have hcz17 := zc_5 (w := w16) BK124.1) | ((with_reducible refine zG Try.func131 6 #[.int .i64 a0_0] ?_); (with_reducible refine (spec_l8Has.calls a0_0 t125 _ A2.1).mono ?_); rintro e w18 ⟨rfl, hb⟩; refine ⟨_, rfl, ?_⟩; replace BK124 := zM (zb BK124.1 hb); replace HB := zM (below_step zB0 hb); clear hb; have hcz19 := zc_5 (w := w18) BK124.1) | ((with_reducible refine zG Try.func49 9 #[.int .i64 a0_0, .int .i64 1, .int .i64 10] ?_); (with_reducible refine (spec_l1In.calls a0_0 1 10 true _ A3.1).mono ?_); rintro e w' ⟨rfl, ⟨nd, rfl⟩⟩; refine ⟨_, rfl, ?_⟩) | (go_at_call 132; (with_reducible refine (spec_l8Field.calls a0_1 3 ((Go.bits .and .i64 t125 1) != 0) true _ A5.1).mono ?_); rintro e w' ⟨rfl, ⟨nd, rfl⟩⟩) | (go_at_call 132; (with_reducible refine (spec_l8Field.calls a0_2 3 ((Go.bits .and .i64 t125 2) != 0) true _ A7.1).mono ?_); rintro e w' ⟨rfl, ⟨nd, rfl⟩⟩) | (go_at_call 132; (with_reducible refine (spec_l8Field.calls a0_3 3 ((Go.bits .and .i64 t125 4) != 0) false _ A9.1).mono ?_); rintro e w' ⟨rfl, ⟨nd, rfl⟩⟩))
  go_ret
  exact ⟨zE, zB0⟩
 subst c10
 rw [if_pos rfl] at H
 replace H := zO H
 obtain ⟨t130, A11, H⟩ := H
 obtain rfl := Option.some.inj H
 go_enter Try.func124, Try.ntmps124
 go_wp2_with (first | ((with_reducible refine zBx 1 59 #[.int .i64 a0_0, .int .i64 a0_1, .int .i64 a0_2, .int .i64 a0_3, .int .i64 a0_4] ?_); intro gb124 hg w12 hbox hb; have BK124 := zM hbox; have GW124 := zM (zW hg (below_size zB0)); have GE124 := zM (zW hg (below_size zB0)); replace HB := zM (below_step zB0 hb); clear hb hbox hg; have hcz13 := zc_5 (w := w12) BK124.1) | ((with_reducible refine zG Try.func131 6 #[.int .i64 a0_0] ?_); (with_reducible refine (spec_l8Has.calls a0_0 t125 _ A2.1).mono ?_); rintro e w14 ⟨rfl, hb⟩; refine ⟨_, rfl, ?_⟩; replace BK124 := zM (zb BK124.1 hb); replace HB := zM (below_step zB0 hb); clear hb; have hcz15 := zc_5 (w := w14) BK124.1) | ((with_reducible refine zG Try.func49 9 #[.int .i64 a0_0, .int .i64 1, .int .i64 10] ?_); (with_reducible refine (spec_l1In.calls a0_0 1 10 true _ A3.1).mono ?_); rintro e w' ⟨rfl, ⟨nd, rfl⟩⟩; refine ⟨_, rfl, ?_⟩) | (go_at_call 132; (with_reducible refine (spec_l8Field.calls a0_1 3 ((Go.bits .and .i64 t125 1) != 0) true _ A5.1).mono ?_); rintro e w' ⟨rfl, ⟨nd, rfl⟩⟩) | (go_at_call 132; (with_reducible refine (spec_l8Field.calls a0_2 3 ((Go.bits .and .i64 t125 2) != 0) true _ A7.1).mono ?_); rintro e w' ⟨rfl, ⟨nd, rfl⟩⟩) | (go_at_call 132; (with_reducible refine (spec_l8Field.calls a0_3 3 ((Go.bits .and .i64 t125 4) != 0) true _ A9.1).mono ?_); rintro e w' ⟨rfl, ⟨nd, rfl⟩⟩) | (go_at_call 132; (with_reducible refine (spec_l8Field.calls a0_4 63 ((Go.bits .and .i64 t125 8) != 0) t130 _ A11.1).mono ?_); rintro e w' ⟨rfl, ⟨nd, rfl⟩⟩))
 go_ret
 exact ⟨zE, zB0⟩

/-! ### spec_Decode: function 105 -/
def spec_Decode.f (a0 : Int) : Option (Int × Int × Int × Int × Int × Bool) := (spec_l1In.f a0 0 65535).bind fun t132 => (if t132 = true then ((spec_InsOk.f (Int.tmod a0 16) (Int.tmod (wrap64 (Int.tdiv a0 16)) 4) (Int.tmod (wrap64 (Int.tdiv a0 64)) 4) (Int.tmod (wrap64 (Int.tdiv a0 256)) 4) (wrap64 (Int.tdiv a0 1024))).bind fun t134 => (if t134 = true then (some (Int.tmod a0 16, Int.tmod (wrap64 (Int.tdiv a0 16)) 4, Int.tmod (wrap64 (Int.tdiv a0 64)) 4, Int.tmod (wrap64 (Int.tdiv a0 256)) 4, wrap64 (Int.tdiv a0 1024), true)) else (some (0, 0, 0, 0, 0, false)))) else (some (0, 0, 0, 0, 0, false)))
theorem spec_Decode.calls (a0 : Int) (r1 : Int) (r2 : Int) (r3 : Int) (r4 : Int) (r5 : Int) (r6 : Bool) (w : World) (h : spec_Decode.f a0 = some (r1, r2, r3, r4, r5, r6)) :
  Calls Try.prog 105 #[.int .i64 a0] w fun e w' => e = .returned (.tuple #[.agg #[.int .i64 r1, .int .i64 r2, .int .i64 r3, .int .i64 r4, .int .i64 r5], .bool r6]) ∧ Below w.heap.size w w' := by
 have hu59 := Try.underlying59
 have HB := zM (Below.refl w.heap.size w)
 unfold spec_Decode.f at h
 have H := h
 clear h
 replace H := zO H
 obtain ⟨t132, A2, H⟩ := H
 by_cases c3 : t132 = true
 rotate_left
 ·replace c3 := Bool.eq_false_iff.mpr c3
  subst c3
  rw [if_neg zF] at H
  simp only [Option.some.injEq, Prod.mk.injEq] at H
  obtain ⟨rfl, rfl, rfl, rfl, rfl, rfl⟩ := H
  go_enter Try.func105, Try.ntmps105
  go_wp2_with (first | ((with_reducible refine zBx 2 59 #[.int .i64 0, .int .i64 0, .int .i64 0, .int .i64 0, .int .i64 0] ?_); intro gb131 hg w19 hbox hb; have BK131 := zM hbox; have GW131 := zM (zW hg (below_size zB0)); have GE131 := zM (zW hg (below_size zB0)); replace HB := zM (below_step zB0 hb); clear hb hbox hg) | ((with_reducible refine zG Try.func49 6 #[.int .i64 a0, .int .i64 0, .int .i64 65535] ?_); (with_reducible refine (spec_l1In.calls a0 0 65535 false _ A2.1).mono ?_); rintro e w' ⟨rfl, ⟨nd, rfl⟩⟩; refine ⟨_, rfl, ?_⟩; (try (rw [drewN_self w19]; generalize hq_ : World.drewN w19 _ = w19; have n0_ : Aside0 (w19.heap[gb131]? = some (.cells #[.int .i64 0, .int .i64 0, .int .i64 0, .int .i64 0, .int .i64 0] 59 (0, 0))) := ⟨by rw [← hq_]; exact (zK BK131.1)⟩; have n1_ : Aside0 (Below w.heap.size w w19) := ⟨by rw [← hq_]; exact zB0⟩; clear BK131 HB hq_; have BK131 := n0_; have HB := n1_; clear n0_ n1_)); have hcz20 := zc_5 (w := w19) BK131.1))
  refine bodyPost_ret (results_ct rfl _ _ gb131 59 #[.int .i64 0, .int .i64 0, .int .i64 0, .int .i64 0, .int .i64 0] (0, 0) _ rfl (by exact zp5 (zK BK131.1)) Try.underlying59 rfl (by kernel_rfl)) rfl ?_
  exact ⟨zE, zB0⟩
 subst c3
 rw [if_pos rfl] at H
 replace H := zO H
 obtain ⟨t134, A4, H⟩ := H
 by_cases c5 : t134 = true
 rotate_left
 ·replace c5 := Bool.eq_false_iff.mpr c5
  subst c5
  rw [if_neg zF] at H
  simp only [Option.some.injEq, Prod.mk.injEq] at H
  obtain ⟨rfl, rfl, rfl, rfl, rfl, rfl⟩ := H
  go_enter Try.func105, Try.ntmps105
  go_wp2_with (first | ((with_reducible refine zBx 2 59 #[.int .i64 0, .int .i64 0, .int .i64 0, .int .i64 0, .int .i64 0] ?_); intro gb131 hg w13 hbox hb; have BK131 := zM hbox; have GW131 := zM (zW hg (below_size zB0)); have GE131 := zM (zW hg (below_size zB0)); replace HB := zM (below_step zB0 hb); clear hb hbox hg) | ((with_reducible refine zG Try.func49 6 #[.int .i64 a0, .int .i64 0, .int .i64 65535] ?_); (with_reducible refine (spec_l1In.calls a0 0 65535 true _ A2.1).mono ?_); rintro e w' ⟨rfl, ⟨nd, rfl⟩⟩; refine ⟨_, rfl, ?_⟩; (try (rw [drewN_self w13]; generalize hq_ : World.drewN w13 _ = w13; have n0_ : Aside0 (w13.heap[gb131]? = some (.cells #[.int .i64 0, .int .i64 0, .int .i64 0, .int .i64 0, .int .i64 0] 59 (0, 0))) := ⟨by rw [← hq_]; exact (zK BK131.1)⟩; have n1_ : Aside0 (Below w.heap.size w w13) := ⟨by rw [← hq_]; exact zB0⟩; clear BK131 HB hq_; have BK131 := n0_; have HB := n1_; clear n0_ n1_))) | ((with_reducible refine zBx 4 59 #[.int .i64 0, .int .i64 0, .int .i64 0, .int .i64 0, .int .i64 0] ?_); intro gb133 hg w14 hbox hb; have BK133 := zM hbox; have GW133 := zM (zW hg (below_size zB0)); have GE133 := zM (zW hg (below_size zB0)); replace HB := zM (below_step zB0 hb); have NB131_133 := zM ((zn BK131.1 hg : gb131 ≠ gb133)); have NB133_131 := zM ((zm BK131.1 hg : gb133 ≠ gb131)); replace BK131 := zM (zb BK131.1 hb); clear hb hbox hg; have hnb15 := NB133_131.1; have hnc15 := NB131_133.1; have hcz16 := zc_5 (w := w14) BK133.1) | ((with_reducible refine zG Try.func124 24 #[.agg #[.int .i64 (Int.tmod a0 16), .int .i64 (Int.tmod (wrap64 (Int.tdiv a0 16)) 4), .int .i64 (Int.tmod (wrap64 (Int.tdiv a0 64)) 4), .int .i64 (Int.tmod (wrap64 (Int.tdiv a0 256)) 4), .int .i64 (wrap64 (Int.tdiv a0 1024))]] ?_); (with_reducible refine (spec_InsOk.calls (Int.tmod a0 16) (Int.tmod (wrap64 (Int.tdiv a0 16)) 4) (Int.tmod (wrap64 (Int.tdiv a0 64)) 4) (Int.tmod (wrap64 (Int.tdiv a0 256)) 4) (wrap64 (Int.tdiv a0 1024)) false _ A4.1).mono ?_); rintro e w17 ⟨rfl, hb⟩; refine ⟨_, rfl, ?_⟩; replace BK131 := zM (zf BK131.1 hb); replace BK133 := zM (blk_below (g := gb133) (o := .cells #[.int .i64 (Int.tmod a0 16), .int .i64 (Int.tmod (wrap64 (Int.tdiv a0 16)) 4), .int .i64 (Int.tmod (wrap64 (Int.tdiv a0 64)) 4), .int .i64 (Int.tmod (wrap64 (Int.tdiv a0 256)) 4), .int .i64 (wrap64 (Int.tdiv a0 1024))] 59 (0, 0)) (by exact zp5 (zK BK133.1)) hb); replace HB := zM (below_step zB0 hb); clear hb; have hcz18 := zc_5 (w := w17) BK131.1))
  refine bodyPost_ret (results_ct rfl _ _ gb131 59 #[.int .i64 0, .int .i64 0, .int .i64 0, .int .i64 0, .int .i64 0] (0, 0) _ rfl (by exact zp5 (zK BK131.1)) Try.underlying59 rfl (by kernel_rfl)) rfl ?_
  exact ⟨zE, zB0⟩
 subst c5
 rw [if_pos rfl] at H
 simp only [Option.some.injEq, Prod.mk.injEq] at H
 obtain ⟨rfl, rfl, rfl, rfl, rfl, rfl⟩ := H
 go_enter Try.func105, Try.ntmps105
 go_wp2_with (first | ((with_reducible refine zBx 2 59 #[.int .i64 0, .int .i64 0, .int .i64 0, .int .i64 0, .int .i64 0] ?_); intro gb131 hg w6 hbox hb; have BK131 := zM hbox; have GW131 := zM (zW hg (below_size zB0)); have GE131 := zM (zW hg (below_size zB0)); replace HB := zM (below_step zB0 hb); clear hb hbox hg) | ((with_reducible refine zG Try.func49 6 #[.int .i64 a0, .int .i64 0, .int .i64 65535] ?_); (with_reducible refine (spec_l1In.calls a0 0 65535 true _ A2.1).mono ?_); rintro e w' ⟨rfl, ⟨nd, rfl⟩⟩; refine ⟨_, rfl, ?_⟩; (try (rw [drewN_self w6]; generalize hq_ : World.drewN w6 _ = w6; have n0_ : Aside0 (w6.heap[gb131]? = some (.cells #[.int .i64 0, .int .i64 0, .int .i64 0, .int .i64 0, .int .i64 0] 59 (0, 0))) := ⟨by rw [← hq_]; exact (zK BK131.1)⟩; have n1_ : Aside0 (Below w.heap.size w w6) := ⟨by rw [← hq_]; exact zB0⟩; clear BK131 HB hq_; have BK131 := n0_; have HB := n1_; clear n0_ n1_))) | ((with_reducible refine zBx 4 59 #[.int .i64 0, .int .i64 0, .int .i64 0, .int .i64 0, .int .i64 0] ?_); intro gb133 hg w7 hbox hb; have BK133 := zM hbox; have GW133 := zM (zW hg (below_size zB0)); have GE133 := zM (zW hg (below_size zB0)); replace HB := zM (below_step zB0 hb); have NB131_133 := zM ((zn BK131.1 hg : gb131 ≠ gb133)); have NB133_131 := zM ((zm BK131.1 hg : gb133 ≠ gb131)); replace BK131 := zM (zb BK131.1 hb); clear hb hbox hg; have hnb8 := NB133_131.1; have hnc8 := NB131_133.1; have hcz9 := zc_5 (w := w7) BK133.1) | ((with_reducible refine zG Try.func124 24 #[.agg #[.int .i64 (Int.tmod a0 16), .int .i64 (Int.tmod (wrap64 (Int.tdiv a0 16)) 4), .int .i64 (Int.tmod (wrap64 (Int.tdiv a0 64)) 4), .int .i64 (Int.tmod (wrap64 (Int.tdiv a0 256)) 4), .int .i64 (wrap64 (Int.tdiv a0 1024))]] ?_); (with_reducible refine (spec_InsOk.calls (Int.tmod a0 16) (Int.tmod (wrap64 (Int.tdiv a0 16)) 4) (Int.tmod (wrap64 (Int.tdiv a0 64)) 4) (Int.tmod (wrap64 (Int.tdiv a0 256)) 4) (wrap64 (Int.tdiv a0 1024)) true _ A4.1).mono ?_); rintro e w10 ⟨rfl, hb⟩; refine ⟨_, rfl, ?_⟩; replace BK131 := zM (zf BK131.1 hb); replace BK133 := zM (blk_below (g := gb133) (o := .cells #[.int .i64 (Int.tmod a0 16), .int .i64 (Int.tmod (wrap64 (Int.tdiv a0 16)) 4), .int .i64 (Int.tmod (wrap64 (Int.tdiv a0 64)) 4), .int .i64 (Int.tmod (wrap64 (Int.tdiv a0 256)) 4), .int .i64 (wrap64 (Int.tdiv a0 1024))] 59 (0, 0)) (by exact zp5 (zK BK133.1)) hb); replace HB := zM (below_step zB0 hb); clear hb; have hcz11 := zc_5 (w := w10) BK133.1; have hcz12 := zc_5 (w := w10) BK131.1))
 refine bodyPost_ret (results_ct rfl _ _ gb131 59 #[.int .i64 (Int.tmod a0 16), .int .i64 (Int.tmod (wrap64 (Int.tdiv a0 16)) 4), .int .i64 (Int.tmod (wrap64 (Int.tdiv a0 64)) 4), .int .i64 (Int.tmod (wrap64 (Int.tdiv a0 256)) 4), .int .i64 (wrap64 (Int.tdiv a0 1024))] (0, 0) _ rfl (by exact zp5 (zK BK131.1)) Try.underlying59 rfl (by kernel_rfl)) rfl ?_
 exact ⟨zE, zB0⟩

/-! ### spec_l9Address: function 125 -/
def spec_l9Address.f (a0 : Int) : Option (Int) := if (Int.tmod a0 24) < 0 then (some (wrap64 ((Int.tmod a0 24) + 24))) else (some (Int.tmod a0 24))
theorem spec_l9Address.calls (a0 : Int) (r : Int) (w : World) (h : spec_l9Address.f a0 = some r) :
  Calls Try.prog 125 #[.int .i64 a0] w fun e w' => e = .returned (.int .i64 r) ∧ Drawn0 w w' := by
 unfold spec_l9Address.f at h
 have H := h
 clear h
 by_cases c2 : (Int.tmod a0 24) < 0
 ·rw [if_pos c2] at H
  have c2b0 := decide_eq_true c2
  clear c2
  obtain rfl := Option.some.inj H
  go_enter Try.func125, Try.ntmps125
  go_wp2
  go_ret
  exact ⟨zJJ, zDD⟩
 rw [if_neg c2] at H
 have c2b0 := decide_eq_false c2
 clear c2
 obtain rfl := Option.some.inj H
 go_enter Try.func125, Try.ntmps125
 go_wp2
 go_ret
 exact ⟨zJJ, zDD⟩

end Go.Proofs.Ytnjdepmlpdjghaa.PFnAllEnds
