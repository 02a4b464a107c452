-- made by wip/tools/myprint.py out of the seat's translation
import Derived.Test.YtpcgecacaemalaaPFnExactRunTox0
namespace Go.Proofs.Ytpcgecacaemalaa.PFnExactRunTo
open Go.RowKit Go.Proofs.YtpcgecacaemalaaW.PrintWords Go.Proofs.YtpcgecacaemalaaW.PrintLast Go.Proofs.YtpcgecacaemalaaW.PrintMore
attribute [local go_sem] max2_int min2_int max_two min_two max_three min_three max_four min_four   -- for this text's walks alone
set_option linter.unusedVariables false
set_option linter.unusedSimpArgs false
set_option maxHeartbeats 8000000
set_option maxRecDepth 100000

-- NOT PRINTED: function 110 (slices_IndexFunc_int_int)

-- NOT PRINTED: function 73 (slices_ContainsFunc_int_int)

-- NOT PRINTED: function 111 (slices_Grow_int_int)

/-! ### slices_Grow_at_nil: function 111 -/
def slices_Grow_at_nil.f (a0 a1 : Int) : Option (List Int) := if 0 ≤ a1 ∧ a1 ≤ 17592186044415 then some [] else none
theorem slices_Grow_at_nil.calls (a0 a1 : Int) (r : List Int) (w : World) (h : slices_Grow_at_nil.f a0 a1 = some r) :
  Calls Try.prog 111 #[.slice none 0 0, .int .i64 a1] w fun e w' => ∃ v0_ : Value, e = .returned v0_ ∧ Kd.R (Kd.int .i64) 3 w' w.heap.size (fun _ => True) v0_ r ∧ Below w.heap.size w w' := by
 unfold slices_Grow_at_nil.f at h
 by_cases hl : 0 ≤ a1 ∧ a1 ≤ 17592186044415
 rotate_left
 ·rw [if_neg hl] at h
  exact absurd h (by simp)
 rw [if_pos hl] at h
 obtain rfl := Option.some.inj h
 have HL := zM hl
 have h1 : decide (a1 < 0) = false := decide_eq_false (by omega)
 have h2 : wrap64 a1 = a1 := by unfold wrap64; omega
 clear h
 have HB := zM (Below.refl w.heap.size w)
 by_cases hz : 0 < a1
 rotate_left
 ·have h3 : decide (0 < a1) = false := decide_eq_false hz
  clear hl hz
  go_enter Try.func111, Try.ntmps111
  go_wp2_with (first | fail)
  go_ret
  exact ⟨_, rfl, Kd.R_nil _ _ _ _ _, zB1⟩
 have h3 : decide (0 < a1) = true := decide_eq_true hz
 clear hl hz
 go_enter Try.func111, Try.ntmps111
 go_wp2_with (first | ((with_reducible refine gate_builtin (b := .append) (xs := #[.tmp 20, .tmp 21]) rfl ?_); refine Kd.R_append_zeros (Kd.int .i64) (w0 := w) w.heap.size rfl (.tmp 20) (.tmp 21) 24 3 3 (.int .i64 0) 8 rfl Try.underlying24 Try.underlying3 info3 rfl (by decide) (by omega) (.slice none 0 0) [] 0 (wrap64 a1) (fun _ => True) rfl rfl rfl (fun _ _ => trivial) (Kd.R_nil _ _ _ _ _) (by rw [h2]; exact HL.1.1) HB.1 (Nat.le_refl _) ?aL ?_; (case aL => have h_ := HL.1; rw [h2]; simp; omega); intro v1 w1 ho hb hg hat; obtain ⟨A', c', e'⟩ := Kd.R_slice ho; subst e'; have HO := zM (Kd.R_take (m := 0) ho (Nat.zero_le _)); have HB1 := zM hb; clear ho hb hg hat HB))
 go_ret
 exact ⟨_, rfl, zR HO.1, zB0⟩

/-! ### slices_Concat_int_int: function 74 -/
mutual
def slices_Concat_int_int.l0 : Nat → List (List Int) → Int → List (List Int) → Int → Int → Option (List Int)
 | 0, _, _, _, _, _ => none
 | k + 1, x0, x3, x9, x10, x11 => if x11 < x10 then (if 0 ≤ x11 then (if x11 < (x9.length : Int) then (if (wrap64 (x3 + ((rd_L1 x9 x11).length : Int))) < 0 then (none) else (slices_Concat_int_int.l0 k x0 (wrap64 (x3 + ((rd_L1 x9 x11).length : Int))) x9 x10 (wrap64 (x11 + 1)))) else (none)) else (none)) else ((slices_Grow_at_nil.f 0 x3).bind fun t102 => (slices_Concat_int_int.l1 k t102 x0 (x0.length : Int) 0))
def slices_Concat_int_int.l1 : Nat → List Int → List (List Int) → Int → Int → Option (List Int)
 | 0, _, _, _, _ => none
 | k + 1, x6, x25, x26, x27 => if x27 < x26 then (if 0 ≤ x27 then (if x27 < (x25.length : Int) then (if x6.length + (rd_L1 x25 x27).length < 17592186044416 then (slices_Concat_int_int.l1 k (x6 ++ (rd_L1 x25 x27)) x25 x26 (wrap64 (x27 + 1))) else (none)) else (none)) else (none)) else (some x6)
end
def slices_Concat_int_int.f (k : Nat) (l0 : List (List Int)) : Option (List Int) := slices_Concat_int_int.l0 k l0 0 l0 (l0.length : Int) 0
theorem slices_Concat_int_int.mono_l : ∀ k, (∀ y0 y1 y2 y3 y4, LeO (slices_Concat_int_int.l0 k y0 y1 y2 y3 y4) (slices_Concat_int_int.l0 (k + 1) y0 y1 y2 y3 y4)) ∧ (∀ y0 y1 y2 y3, LeO (slices_Concat_int_int.l1 k y0 y1 y2 y3) (slices_Concat_int_int.l1 (k + 1) y0 y1 y2 y3))
 | 0 => ⟨fun _ _ _ _ _ r h => by simp [slices_Concat_int_int.l0] at h, fun _ _ _ _ r h => by simp [slices_Concat_int_int.l1] at h⟩
 | k + 1 => by
  obtain ⟨ih0, ih1⟩ := slices_Concat_int_int.mono_l k
  refine ⟨?_, ?_⟩
  ·intros
   unfold slices_Concat_int_int.l0
   exact zL
  ·intros
   unfold slices_Concat_int_int.l1
   exact zL
theorem slices_Concat_int_int.mono : ∀ a0 k, LeO (slices_Concat_int_int.f k a0) (slices_Concat_int_int.f (k + 1) a0) := by
 intro a0 k
 obtain ⟨ih0, ih1⟩ := slices_Concat_int_int.mono_l k
 unfold slices_Concat_int_int.f
 exact zL
theorem slices_Concat_int_int.calls (k : Nat) (A0 : Option Addr) (c0 : Nat) (l0 : List (List Int)) (r : List Int) (w : World) (hr0 : Kd.C (Kd.slice 3 (Kd.int .i64)) w A0 l0.length l0) (hc0 : l0.length ≤ c0) (h : slices_Concat_int_int.f k l0 = some r) :
  Calls Try.prog 74 #[.slice A0 l0.length c0] w fun e w' => ∃ v0_ : Value, e = .returned (v0_) ∧ Kd.R (Kd.int .i64) 3 w' w.heap.size (fun _ => True) v0_ r ∧ Below w.heap.size w w' := by
 have HR0 := zM hr0
 have HC0 := zM hc0
 clear hr0 hc0
 have HB := zM (Below.refl w.heap.size w)
 unfold slices_Concat_int_int.f at h
 have H := h
 clear h
 have H' := zM H
 clear H
 go_enter Try.func74, Try.ntmps74
 go_wp2
 go_loopg [3, 11] k (fun kq v3 v11 w' => ∃ (x3_1 : Int) (x11_1 : Int), v3 = .int .i64 x3_1 ∧ v11 = .int .i64 x11_1 ∧ Aside0 (slices_Concat_int_int.l0 kq l0 x3_1 l0 (l0.length : Int) x11_1 = some r) ∧ Aside0 (kq ≤ k) ∧ Aside0 (Below w.heap.size w w'))
 case atStart => exact ⟨(0), (0), zJJ, zJJ, H', ⟨Nat.le_refl _⟩, ⟨zB1⟩⟩
 case round =>
  clear H'
  obtain ⟨x3_1, x11_1, rfl, rfl, HA, HK1, HB⟩ := hrel
  cases gk with
  | zero => exact absurd HA.1 (by simp [slices_Concat_int_int.l0])
  | succ k1 =>
   have H := HA.1
   clear HA
   simp only [slices_Concat_int_int.l0] at H
   by_cases c2 : x11_1 < (l0.length : Int)
   ·rw [if_pos c2] at H
    have c2b0 := decide_eq_true c2
    clear c2
    replace H := zIt H
    obtain ⟨c3b0, H⟩ := H
    replace H := zIt H
    obtain ⟨c4b0, H⟩ := H
    by_cases c5 : (wrap64 (x3_1 + ((rd_L1 l0 x11_1).length : Int))) < 0
    ·rw [if_pos c5] at H
     exact absurd H (by simp)
    rw [if_neg c5] at H
    have c5b0 := decide_eq_false c5
    clear c5
    have H' := zM H
    clear H
    obtain ⟨p101, q101, ad101, A101_0, c101_0, e101, hx101_0, hl101_0, hi101_0⟩ := zRd (at_L1 HR0.1 x11_1)
    cases e101
    replace hx101_0 := zHx HB.1 hx101_0
    have HR101_0 := zM hi101_0
    have HC101_0 := zM hl101_0
    clear hi101_0 hl101_0
    go_wp2
    go_roundg k1
    case measure => have := HK1.1; omega
    case rel => exact ⟨(wrap64 (x3_1 + ((rd_L1 l0 x11_1).length : Int))), (wrap64 (x11_1 + 1)), zJJ, zJJ, H', ⟨by have := HK1.1; omega⟩, ⟨zB1⟩⟩
   rw [if_neg c2] at H
   have c2b0 := decide_eq_false c2
   clear c2
   replace H := zO H
   obtain ⟨t102, A6, H⟩ := H
   have H' := zM H
   clear H
   go_wp2_with (first | ((with_reducible refine zG Try.func111 24 #[.slice none 0 0, .int .i64 x3_1] ?_); (with_reducible refine (slices_Grow_at_nil.calls 0 x3_1 t102 _ A6.1).mono ?_); rintro e w7 ⟨v103, rfl, ho0, hb⟩; refine ⟨_, rfl, ?_⟩; have HO104 := zM (Kd.R_lower ho0 (below_size zB1)); replace HB := zM (below_step zB1 hb); clear hb ho0))
   go_loopg [6, 27] k1 (fun kq v6 v27 w' => ∃ (x6_2 : List Int) (x27_2 : Int), v27 = .int .i64 x27_2 ∧ Aside0 (slices_Concat_int_int.l1 kq x6_2 l0 (l0.length : Int) x27_2 = some r) ∧ Aside0 (kq ≤ k1) ∧ Aside0 (Kd.R (Kd.int .i64) 3 w' w.heap.size (fun _ => True) v6 x6_2) ∧ Aside0 (Below w.heap.size w w'))
   case atStart => exact ⟨(t102), (0), zJJ, H', ⟨Nat.le_refl _⟩, ⟨zR HO104.1⟩, ⟨zB1⟩⟩
   case round =>
    clear H'
    obtain ⟨x6_2, x27_2, rfl, HA, HK2, HO_6, HB⟩ := hrel
    cases gk with
    | zero => exact absurd HA.1 (by simp [slices_Concat_int_int.l1])
    | succ k2 =>
     have H := HA.1
     clear HA
     simp only [slices_Concat_int_int.l1] at H
     by_cases c8 : x27_2 < (l0.length : Int)
     rotate_left
     ·rw [if_neg c8] at H
      have c8b0 := decide_eq_false c8
      clear c8
      obtain rfl := Option.some.inj H
      go_wp2
      go_ret
      exact ⟨_, zE, zR HO_6.1, zB1⟩
     rw [if_pos c8] at H
     have c8b0 := decide_eq_true c8
     clear c8
     replace H := zIt H
     obtain ⟨c9b0, H⟩ := H
     replace H := zIt H
     obtain ⟨c10b0, H⟩ := H
     replace H := zIn H
     obtain ⟨LMc11, H⟩ := H
     generalize hy106 : ((x6_2 ++ (rd_L1 l0 x27_2)) : List Int) = y106 at H
     have Ny106 := zM hy106.symm
     clear hy106
     have H' := zM H
     clear H
     obtain ⟨p105, q105, ad105, A105_0, c105_0, e105, hx105_0, hl105_0, hi105_0⟩ := zRd (at_L1 HR0.1 x27_2)
     cases e105
     replace hx105_0 := zHx HB.1 hx105_0
     have HR105_0 := zM hi105_0
     have HC105_0 := zM hl105_0
     clear hi105_0 hl105_0
     go_wp2_with (first | ((with_reducible refine gate_builtin (b := .append) (xs := #[.tmp 31, .tmp 32]) rfl ?_); at_builtin; refine Kd.R_append_rows (Kd.int .i64) (w0 := w) w.heap.size rfl (.tmp 31) (.tmp 32) 24 3 (.int .i64 0) 8 rfl Try.underlying24 info3 rfl (by decide) (by omega) u6 x6_2 (rd_L1 l0 x27_2) _ _ _ (fun _ => True) (fun _ => False) rfl rfl ?aO ?aR (fun _ _ h => h) (fun _ h => h.elim) ?aF ?aB ?aS ?aL ?_; (case aR => exact zC (Kd.C_below HR105_0.1 HB.1)); (case aB => exact zB1); (case aF => exact (fun _ _ => trivial)); (case aO => exact (zR HO_6.1)); (case aS => exact (below_size zB1)); (case aL => have := LMc11.out; omega); intro v107 w12 ho hb hg hat; rw [← Ny106.1] at ho; replace HB := zM hb; have HO108 := zM ho; clear HO_6; clear ho hb hg hat))
     go_roundg k2
     case measure => have := HK1.1; have := HK2.1; omega
     case rel => exact ⟨(y106), (wrap64 (x27_2 + 1)), zJJ, H', ⟨by have := HK1.1; have := HK2.1; omega⟩, ⟨zR HO108.1⟩, ⟨zB1⟩⟩

/-! ### impl_from: function 62 -/
def impl_from.f (a0 : Int) (a1 : Int) (a2 : Int) : Option (Bool) := if a0 ≥ a1 then (some (decide (a0 ≤ a2))) else (some false)
theorem impl_from.calls (a0 : Int) (a1 : Int) (a2 : Int) (r : Bool) (w : World) (h : impl_from.f a0 a1 a2 = some r) :
  Calls Try.prog 62 #[.int .i64 a0, .int .i64 a1, .int .i64 a2] w fun e w' => e = .returned (.bool r) ∧ Drawn0 w w' := by
 unfold impl_from.f at h
 have H := h
 clear h
 by_cases c4 : a0 ≥ a1
 ·rw [if_pos c4] at H
  have c4b0 := decide_eq_true c4
  clear c4
  obtain rfl := Option.some.inj H
  go_enter Try.func62, Try.ntmps62
  go_wp2
  go_ret
  exact ⟨zJJ, zDD⟩
 rw [if_neg c4] at H
 have c4b0 := decide_eq_false c4
 clear c4
 obtain rfl := Option.some.inj H
 go_enter Try.func62, Try.ntmps62
 go_wp2
 go_ret
 exact ⟨zJJ, zDD⟩

/-! ### impl_isCell: function 76 -/
def impl_isCell.f (a0 : Int) : Option (Bool) := (impl_from.f a0 0 23).bind fun t109 => (some t109)
theorem impl_isCell.calls (a0 : Int) (r : Bool) (w : World) (h : impl_isCell.f a0 = some r) :
  Calls Try.prog 76 #[.int .i64 a0] w fun e w' => e = .returned (.bool r) ∧ Drawn0 w w' := by
 unfold impl_isCell.f at h
 have H := h
 clear h
 replace H := zO H
 obtain ⟨t109, A2, H⟩ := H
 obtain rfl := Option.some.inj H
 go_enter Try.func76, Try.ntmps76
 go_wp2_with (first | ((with_reducible refine zG Try.func62 4 #[.int .i64 a0, .int .i64 0, .int .i64 23] ?_); (with_reducible refine (impl_from.calls a0 0 23 t109 _ A2.1).mono ?_); rintro e w' ⟨rfl, ⟨nd, rfl⟩⟩; refine ⟨_, rfl, ?_⟩))
 go_ret
 exact ⟨zJJ, zDD⟩

/-! ### impl_WatchOk_1: function 75 -/
def impl_WatchOk_1.f (a0 : Int) : Option (Bool) := (impl_isCell.f a0).bind fun t110 => (some (!t110))
theorem impl_WatchOk_1.calls (a0 : Int) (r : Bool) (w : World) (h : impl_WatchOk_1.f a0 = some r) :
  Calls Try.prog 75 #[.int .i64 a0] w fun e w' => e = .returned (.bool r) ∧ Drawn0 w w' := by
 unfold impl_WatchOk_1.f at h
 have H := h
 clear h
 replace H := zO H
 obtain ⟨t110, A2, H⟩ := H
 obtain rfl := Option.some.inj H
 go_enter Try.func75, Try.ntmps75
 go_wp2_with (first | ((with_reducible refine zG Try.func76 4 #[.int .i64 a0] ?_); (with_reducible refine (impl_isCell.calls a0 t110 _ A2.1).mono ?_); rintro e w' ⟨rfl, ⟨nd, rfl⟩⟩; refine ⟨_, rfl, ?_⟩))
 go_ret
 exact ⟨zJJ, zDD⟩

/-! ### slices_IndexFunc_at_impl_WatchOk_1: function 110 -/
def slices_IndexFunc_at_impl_WatchOk_1.l0 : Nat → List Int → Int → Int → Option (Int)
 | 0, _, _, _ => none
 | k + 1, x0, x7, x8 => if x8 < x7 then (if 0 ≤ x8 then (if x8 < (x0.length : Int) then ((impl_WatchOk_1.f (rd x0 x8)).bind fun t112 => (if t112 = true then (some x8) else (slices_IndexFunc_at_impl_WatchOk_1.l0 k x0 x7 (wrap64 (x8 + 1))))) else (none)) else (none)) else (some (-1))
def slices_IndexFunc_at_impl_WatchOk_1.f (k : Nat) (l0 : List Int) (a1 : Int) : Option (Int) := slices_IndexFunc_at_impl_WatchOk_1.l0 k l0 (l0.length : Int) 0
theorem slices_IndexFunc_at_impl_WatchOk_1.mono_l : ∀ k, (∀ y0 y1 y2, LeO (slices_IndexFunc_at_impl_WatchOk_1.l0 k y0 y1 y2) (slices_IndexFunc_at_impl_WatchOk_1.l0 (k + 1) y0 y1 y2))
 | 0 => fun _ _ _ r h => by simp [slices_IndexFunc_at_impl_WatchOk_1.l0] at h
 | k + 1 => by
  have ih0 := slices_IndexFunc_at_impl_WatchOk_1.mono_l k
  ·intros
   unfold slices_IndexFunc_at_impl_WatchOk_1.l0
   exact zL
theorem slices_IndexFunc_at_impl_WatchOk_1.mono : ∀ a0 a1 k, LeO (slices_IndexFunc_at_impl_WatchOk_1.f k a0 a1) (slices_IndexFunc_at_impl_WatchOk_1.f (k + 1) a0 a1) := by
 intro a0 a1 k
 have ih0 := slices_IndexFunc_at_impl_WatchOk_1.mono_l k
 unfold slices_IndexFunc_at_impl_WatchOk_1.f
 exact zL
theorem slices_IndexFunc_at_impl_WatchOk_1.calls (k : Nat) (A0 : Option Addr) (c0 : Nat) (l0 : List Int) (a1 : Int) (r : Int) (w : World) (hr0 : Kd.C (Kd.int .i64) w A0 l0.length l0) (hc0 : l0.length ≤ c0) (h : slices_IndexFunc_at_impl_WatchOk_1.f k l0 a1 = some r) :
  Calls Try.prog 110 #[.slice A0 l0.length c0, .func (.func 75) #[] #[]] w fun e w' => e = .returned (.int .i64 r) ∧ Drawn0 w w' := by
 have HR0 := zM hr0
 have HC0 := zM hc0
 clear hr0 hc0
 unfold slices_IndexFunc_at_impl_WatchOk_1.f at h
 have H := h
 clear h
 have H' := zM H
 clear H
 go_enter Try.func110, Try.ntmps110
 go_wp2
 go_loopg [8] k (fun kq v8 w' => ∃ (x8_1 : Int), v8 = .int .i64 x8_1 ∧ Aside0 (slices_IndexFunc_at_impl_WatchOk_1.l0 kq l0 (l0.length : Int) x8_1 = some r) ∧ Aside0 (kq ≤ k) ∧ Drawn0 w w')
 case atStart => exact ⟨(0), zJJ, H', ⟨Nat.le_refl _⟩, zDD⟩
 case round =>
  clear H'
  obtain ⟨x8_1, rfl, HA, HK1, ⟨m1, rfl⟩⟩ := hrel
  cases gk with
  | zero => exact absurd HA.1 (by simp [slices_IndexFunc_at_impl_WatchOk_1.l0])
  | succ k1 =>
   have H := HA.1
   clear HA
   simp only [slices_IndexFunc_at_impl_WatchOk_1.l0] at H
   by_cases c3 : x8_1 < (l0.length : Int)
   rotate_left
   ·rw [if_neg c3] at H
    have c3b0 := decide_eq_false c3
    clear c3
    obtain rfl := Option.some.inj H
    go_wp2
    go_ret
    exact ⟨zJJ, zDD⟩
   rw [if_pos c3] at H
   have c3b0 := decide_eq_true c3
   clear c3
   replace H := zIt H
   obtain ⟨c4b0, H⟩ := H
   replace H := zIt H
   obtain ⟨c5b0, H⟩ := H
   replace H := zO H
   obtain ⟨t112, A6, H⟩ := H
   by_cases c7 : t112 = true
   ·subst c7
    rw [if_pos rfl] at H
    obtain rfl := Option.some.inj H
    obtain ⟨p111, q111, ad111, e111, hx111_0⟩ := zRd (Kd.at_int HR0.1 x8_1)
    cases e111
    go_wp2_with (first | (go_at_call 75; (with_reducible refine (impl_WatchOk_1.calls (rd l0 x8_1) true _ A6.1).mono ?_); rintro e w' ⟨rfl, ⟨nd, rfl⟩⟩))
    go_ret
    exact ⟨zJJ, zDD⟩
   replace c7 := Bool.eq_false_iff.mpr c7
   subst c7
   rw [if_neg zF] at H
   have H' := zM H
   clear H
   obtain ⟨p111, q111, ad111, e111, hx111_0⟩ := zRd (Kd.at_int HR0.1 x8_1)
   cases e111
   go_wp2_with (first | (go_at_call 75; (with_reducible refine (impl_WatchOk_1.calls (rd l0 x8_1) false _ A6.1).mono ?_); rintro e w' ⟨rfl, ⟨nd, rfl⟩⟩))
   go_roundg k1
   case measure => have := HK1.1; omega
   case rel => exact ⟨(wrap64 (x8_1 + 1)), zJJ, H', ⟨by have := HK1.1; omega⟩, zDD⟩

/-! ### slices_ContainsFunc_at_impl_WatchOk_1: function 73 -/
def slices_ContainsFunc_at_impl_WatchOk_1.f (k : Nat) (l0 : List Int) (a1 : Int) : Option (Bool) := (slices_IndexFunc_at_impl_WatchOk_1.f k l0 0).bind fun t113 => (some (decide (t113 ≥ 0)))
theorem slices_ContainsFunc_at_impl_WatchOk_1.mono : ∀ a0 a1 k, LeO (slices_ContainsFunc_at_impl_WatchOk_1.f k a0 a1) (slices_ContainsFunc_at_impl_WatchOk_1.f (k + 1) a0 a1) := by
 intro a0 a1 k
 unfold slices_ContainsFunc_at_impl_WatchOk_1.f
 have mo0 := @slices_IndexFunc_at_impl_WatchOk_1.mono
 exact zL
theorem slices_ContainsFunc_at_impl_WatchOk_1.calls (k : Nat) (A0 : Option Addr) (c0 : Nat) (l0 : List Int) (a1 : Int) (r : Bool) (w : World) (hr0 : Kd.C (Kd.int .i64) w A0 l0.length l0) (hc0 : l0.length ≤ c0) (h : slices_ContainsFunc_at_impl_WatchOk_1.f k l0 a1 = some r) :
  Calls Try.prog 73 #[.slice A0 l0.length c0, .func (.func 75) #[] #[]] w fun e w' => e = .returned (.bool r) ∧ Drawn0 w w' := by
 have HR0 := zM hr0
 have HC0 := zM hc0
 clear hr0 hc0
 unfold slices_ContainsFunc_at_impl_WatchOk_1.f at h
 have H := h
 clear h
 replace H := zO H
 obtain ⟨t113, A3, H⟩ := H
 obtain rfl := Option.some.inj H
 go_enter Try.func73, Try.ntmps73
 go_wp2_with (first | ((with_reducible refine zG Try.func110 7 #[.slice A0 l0.length c0, .func (.func 75) #[] #[]] ?_); (with_reducible refine (slices_IndexFunc_at_impl_WatchOk_1.calls k _ _ l0 0 t113 _ ?side1 ?side2 A3.1).mono ?_); (case side1 => exact zC HR0.1); (case side2 => exact HC0.1); rintro e w' ⟨rfl, ⟨nd, rfl⟩⟩; refine ⟨_, rfl, ?_⟩))
 go_ret
 exact ⟨zJJ, zDD⟩

/-! ### impl_WatchOk: function 15 -/
def impl_WatchOk.f (k : Nat) (l0_0 : List Int) (l0_1 : List Int) : Option (Bool) := if (l0_0.length : Int) ≤ 24 then (if (l0_1.length : Int) ≤ 24 then ((slices_Concat_int_int.f k (([l0_0, l0_1] : List (List Int)))).bind fun t118 => ((slices_ContainsFunc_at_impl_WatchOk_1.f k t118 0).bind fun t121 => (some (!t121)))) else (some false)) else (some false)
theorem impl_WatchOk.mono : ∀ a0 a1 k, LeO (impl_WatchOk.f k a0 a1) (impl_WatchOk.f (k + 1) a0 a1) := by
 intro a0 a1 k
 unfold impl_WatchOk.f
 have mo0 := @slices_Concat_int_int.mono
 have mo1 := @slices_ContainsFunc_at_impl_WatchOk_1.mono
 exact zL
theorem impl_WatchOk.calls (k : Nat) (P0_0_ : Nat → Prop) (A0_0 : Option Addr) (c0_0 : Nat) (l0_0 : List Int) (P0_1_ : Nat → Prop) (A0_1 : Option Addr) (c0_1 : Nat) (l0_1 : List Int) (r : Bool) (w : World) (hs0_0 : Kd.V (Kd.int .i64) 3 w w.heap.size (fun k_ => P0_0_ k_) (.slice A0_0 l0_0.length c0_0) l0_0) (hs0_1 : Kd.V (Kd.int .i64) 3 w w.heap.size (fun k_ => P0_1_ k_) (.slice A0_1 l0_1.length c0_1) l0_1) (h : impl_WatchOk.f k l0_0 l0_1 = some r) :
  Calls Try.prog 15 #[.agg #[.slice A0_0 l0_0.length c0_0, .slice A0_1 l0_1.length c0_1]] w fun e w' => e = .returned (.bool r) ∧ Below w.heap.size w w' := by
 have hu27 := Try.underlying27
 have HO0_0 := zM (show Kd.V (Kd.int .i64) 3 w w.heap.size (fun k_ => ((P0_0_ k_ ∨ P0_1_ k_) ∨ w.heap.size ≤ k_)) (.slice A0_0 l0_0.length c0_0) l0_0 from Kd.V_mono hs0_0 (fun k_ hk => .inl (.inl hk)))
 have HO0_1 := zM (show Kd.V (Kd.int .i64) 3 w w.heap.size (fun k_ => ((P0_0_ k_ ∨ P0_1_ k_) ∨ w.heap.size ≤ k_)) (.slice A0_1 l0_1.length c0_1) l0_1 from Kd.V_mono hs0_1 (fun k_ hk => .inl (.inr hk)))
 have HB := zM (Below.refl w.heap.size w)
 unfold impl_WatchOk.f at h
 have H := h
 clear h
 by_cases c2 : (l0_0.length : Int) ≤ 24
 rotate_left
 ·rw [if_neg c2] at H
  have c2b0 := decide_eq_false c2
  have c2b1 : decide (l0_0.length ≤ 24) = false := decide_eq_false (by omega)
  clear c2
  obtain rfl := Option.some.inj H
  go_enter Try.func15, Try.ntmps15
  go_wp2_with (first | ((with_reducible refine gate_dst (N := 1) rfl ?_); (try (refine gate_guard (by rfl) ?_; dsimp only)); (with_reducible refine zBx 1 27 #[.slice A0_0 l0_0.length c0_0, .slice A0_1 l0_1.length c0_1] ?_); intro gb114 hg w15 hbox hb; replace HO0_0 := zM (Kd.V_below (Kd.V_elderB (by refine zrV ?_; exact HO0_0.1) gb114 (Nat.le_of_eq hg.symm)) hb); replace HO0_1 := zM (Kd.V_below (Kd.V_elderB (by refine zrV ?_; exact HO0_1.1) gb114 (Nat.le_of_eq hg.symm)) hb); have BK114 := zM hbox; have GW114 := zM (zW hg (below_size zB1)); have GE114 := zM (zW hg (below_size zB1)); replace HB := zM (below_step zB1 hb); clear hb hbox hg; have hcz16 := zc_2 (w := w15) BK114.1))
  go_ret
  exact ⟨zE, zB1⟩
 rw [if_pos c2] at H
 have c2b0 := decide_eq_true c2
 have c2b1 : decide (l0_0.length ≤ 24) = true := decide_eq_true (by omega)
 clear c2
 by_cases c3 : (l0_1.length : Int) ≤ 24
 rotate_left
 ·rw [if_neg c3] at H
  have c3b0 := decide_eq_false c3
  have c3b1 : decide (l0_1.length ≤ 24) = false := decide_eq_false (by omega)
  clear c3
  obtain rfl := Option.some.inj H
  go_enter Try.func15, Try.ntmps15
  go_wp2_with (first | ((with_reducible refine gate_dst (N := 1) rfl ?_); (try (refine gate_guard (by rfl) ?_; dsimp only)); (with_reducible refine zBx 1 27 #[.slice A0_0 l0_0.length c0_0, .slice A0_1 l0_1.length c0_1] ?_); intro gb114 hg w13 hbox hb; replace HO0_0 := zM (Kd.V_below (Kd.V_elderB (by refine zrV ?_; exact HO0_0.1) gb114 (Nat.le_of_eq hg.symm)) hb); replace HO0_1 := zM (Kd.V_below (Kd.V_elderB (by refine zrV ?_; exact HO0_1.1) gb114 (Nat.le_of_eq hg.symm)) hb); have BK114 := zM hbox; have GW114 := zM (zW hg (below_size zB1)); have GE114 := zM (zW hg (below_size zB1)); replace HB := zM (below_step zB1 hb); clear hb hbox hg; have hcz14 := zc_2 (w := w13) BK114.1))
  go_ret
  exact ⟨zE, zB1⟩
 rw [if_pos c3] at H
 have c3b0 := decide_eq_true c3
 have c3b1 : decide (l0_1.length ≤ 24) = true := decide_eq_true (by omega)
 clear c3
 generalize hy115 : ((([l0_0, l0_1] : List (List Int))) : List (List Int)) = y115 at H
 have Ny115 := zM hy115.symm
 clear hy115
 replace H := zO H
 obtain ⟨t118, A4, H⟩ := H
 replace H := zO H
 obtain ⟨t121, A5, H⟩ := H
 obtain rfl := Option.some.inj H
 go_enter Try.func15, Try.ntmps15
 go_wp2_with (first | ((with_reducible refine gate_dst (N := 1) rfl ?_); (try (refine gate_guard (by rfl) ?_; dsimp only)); (with_reducible refine zBx 1 27 #[.slice A0_0 l0_0.length c0_0, .slice A0_1 l0_1.length c0_1] ?_); intro gb114 hg w6 hbox hb; replace HO0_0 := zM (Kd.V_below (Kd.V_elderB (by refine zrV ?_; exact HO0_0.1) gb114 (Nat.le_of_eq hg.symm)) hb); replace HO0_1 := zM (Kd.V_below (Kd.V_elderB (by refine zrV ?_; exact HO0_1.1) gb114 (Nat.le_of_eq hg.symm)) hb); have BK114 := zM hbox; have GW114 := zM (zW hg (below_size zB1)); have GE114 := zM (zW hg (below_size zB1)); replace HB := zM (below_step zB1 hb); clear hb hbox hg; have hcz7 := zc_2 (w := w6) BK114.1) | ((with_reducible refine gate_dst (N := 18) rfl ?_); (try (refine gate_guard (by rfl) ?_; dsimp only)); refine Kd.N_lit (Kd.slice 3 (Kd.int .i64)) _ 24 ?hg (N' := 18) ?hd (xs := ([l0_0, l0_1] : List (List Int))) (inner := [.slice A0_0 l0_0.length c0_0, .slice A0_1 l0_1.length c0_1]) (ok := (fun k_ => ((P0_0_ k_ ∨ P0_1_ k_) ∨ w.heap.size ≤ k_) ∧ k_ ≠ gb114)) (okp := (fun k_ => ((P0_0_ k_ ∨ P0_1_ k_) ∨ w.heap.size ≤ k_) ∧ k_ ≠ gb114)) ?hr ?hp (fun _ hk => hk) ((show ∀ k_, w6.heap.size ≤ k_ → (fun k_ => ((P0_0_ k_ ∨ P0_1_ k_) ∨ w.heap.size ≤ k_) ∧ k_ ≠ gb114) k_ from fun k_ hk => ⟨(.inr (Nat.le_trans (below_size zB1) hk)), Kd.freshB (g := gb114) (o := .cells #[.slice A0_0 l0_0.length c0_0, .slice A0_1 l0_1.length c0_1] 27 (0, 0)) (zK BK114.1) k_ hk⟩) _ (Nat.le_refl _)) (Below.refl _ _) (Nat.le_refl _) (by simp) ?_; (case hd => rfl); (case hg => rfl); (case hr => exact zHH); (case hp => exact (Reps.one (show Kd.FK (Kd.slice 3 (Kd.int .i64)) _ _ l0_0 [.slice A0_0 l0_0.length c0_0] from (Kd.FK_slice_mk (Kd.V_reads' (Kd.V_mono (ok' := (fun k_ => ((P0_0_ k_ ∨ P0_1_ k_) ∨ w.heap.size ≤ k_) ∧ k_ ≠ gb114)) (HO0_0.1) (fun k_ hk => ⟨hk.1, hk.2⟩))).2.1 (Kd.V_F (Kd.V_mono (ok' := (fun k_ => ((P0_0_ k_ ∨ P0_1_ k_) ∨ w.heap.size ≤ k_) ∧ k_ ≠ gb114)) (HO0_0.1) (fun k_ hk => ⟨hk.1, hk.2⟩))))) (Reps.one (show Kd.FK (Kd.slice 3 (Kd.int .i64)) _ _ l0_1 [.slice A0_1 l0_1.length c0_1] from (Kd.FK_slice_mk (Kd.V_reads' (Kd.V_mono (ok' := (fun k_ => ((P0_0_ k_ ∨ P0_1_ k_) ∨ w.heap.size ≤ k_) ∧ k_ ≠ gb114)) (HO0_1.1) (fun k_ hk => ⟨hk.1, hk.2⟩))).2.1 (Kd.V_F (Kd.V_mono (ok' := (fun k_ => ((P0_0_ k_ ∨ P0_1_ k_) ∨ w.heap.size ≤ k_) ∧ k_ ≠ gb114)) (HO0_1.1) (fun k_ hk => ⟨hk.1, hk.2⟩))))) (Reps.none _ _)))); intro v116 w8 ho9 hb hg_ hnew_; clear hg_ hnew_; (first | rw [← Ny115.1] at ho9 | (simp only [Int.reduceToNat] at ho9; rw [← Ny115.1] at ho9)); replace HO0_0 := zM (Kd.V_elder' (by refine zrV ?_; exact HO0_0.1) (Kd.N_base ho9) hb); replace HO0_1 := zM (Kd.V_elder' (by refine zrV ?_; exact HO0_1.1) (Kd.N_base ho9) hb); have HO117 := zM (Kd.N_lower ho9 (below_size zB1)); replace BK114 := zM (zb BK114.1 hb); replace HB := zM (below_step zB1 hb); clear hb ho9; obtain ⟨Ao10, co10, eo10⟩ := Kd.N_slice HO117.1; subst eo10) | (go_at_call 74; (with_reducible refine (slices_Concat_int_int.calls k _ _ y115 t118 _ ?side1 ?side2 A4.1).mono ?_); (case side1 => exact zC (Kd.N_reads' HO117.1).2.2); (case side2 => exact (Kd.N_reads' HO117.1).2.1); rintro e w11 ⟨v119, rfl, ho0, hb⟩; replace HO0_0 := zM (Kd.V_elder' (by refine zrV ?_; exact HO0_0.1) (Kd.R_base ho0) hb); replace HO0_1 := zM (Kd.V_elder' (by refine zrV ?_; exact HO0_1.1) (Kd.R_base ho0) hb); replace HO117 := zM (Kd.N_elder' (by refine zrN ?_; exact HO117.1) (Kd.R_base ho0) hb); have HO120 := zM (Kd.R_lower (Kd.R_newM (M := fun k_ => (w.heap.size ≤ k_)) ho0 (below_size zB1) (fun k_ h_ => h_)) (below_size zB1)); replace BK114 := zM (zb BK114.1 hb); replace HB := zM (below_step zB1 hb); clear hb ho0; obtain ⟨Ao12, co12, eo12⟩ := Kd.R_slice HO120.1; subst eo12) | (go_at_call 73; (with_reducible refine (slices_ContainsFunc_at_impl_WatchOk_1.calls k _ _ t118 0 t121 _ ?side1 ?side2 A5.1).mono ?_); (case side1 => exact zC (Kd.R_reads' HO120.1).2.2); (case side2 => exact (Kd.R_reads' HO120.1).2.1); rintro e w' ⟨rfl, ⟨nd, rfl⟩⟩))
 go_ret
 exact ⟨zE, zB1⟩

/-! ### slices_Clone_int_int: function 59 -/
def slices_Clone_int_int.f (l0 : List Int) : Option (List Int) := if l0.length ≤ 17592186044416 then some l0 else none
theorem slices_Clone_int_int.calls (A0 : Option Addr) (c0 : Nat) (l0 : List Int) (r : List Int) (w : World) (hr0 : Kd.C (Kd.int .i64) w A0 l0.length l0) (hc0 : l0.length ≤ c0) (h : slices_Clone_int_int.f l0 = some r) :
  Calls Try.prog 59 #[.slice A0 l0.length c0] w fun e w' => ∃ v0_ : Value, e = .returned (v0_) ∧ Kd.R (Kd.int .i64) 3 w' w.heap.size (fun _ => True) v0_ r ∧ Below w.heap.size w w' := by
 unfold slices_Clone_int_int.f at h
 by_cases hl : l0.length ≤ 17592186044416
 rotate_left
 ·rw [if_neg hl] at h
  exact absurd h (by simp)
 rw [if_pos hl] at h
 obtain rfl := Option.some.inj h
 have LM := zM hl
 clear h hl
 have HR0 := zM hr0
 have HC0 := zM hc0
 clear hr0 hc0
 have HB := zM (Below.refl w.heap.size w)
 have q22 : ∀ (w : World) (a : Option Addr) (n c n' c' : Nat), (binOp .eql 24 (.slice a n c) (.slice none n' c')).run Try.prog w = .ok (.bool a.isNone) w := fun w a n c n' c' => Lib.run_eql_slice_nil w _ _ a n c n' c' Try.underlying24
 cases A0 with
 | none =>
  have hz : l0 = [] := by
   cases l0 with
   | nil => rfl
   | cons x xs => obtain ⟨ad, e, _⟩ := HR0.1.2.2 (by simp); cases e
  subst hz
  go_enter Try.func59, Try.ntmps59
  go_wp2
  go_ret
  exact ⟨_, rfl, Kd.R_nil _ _ _ _ _, Below.refl _ _⟩
 | some ad =>
  obtain ⟨y1, hy1⟩ : ∃ y_ : List Int, y_ = ([] : List Int) := ⟨_, rfl⟩
  have Ny1 := zM hy1
  clear hy1
  go_enter Try.func59, Try.ntmps59
  go_wp2_with (first | ((with_reducible refine gate_dst (N := 5) rfl ?_); refine Kd.R_lit (Kd.int .i64) _ 3 ?hg (N := 5) ?hd (xs := ([] : List Int)) (inner := []) (ok := fun _ => True) (okp := fun _ => True) ?hr ?hp (fun _ hk => hk) trivial (Below.refl _ _) (Nat.le_refl _) (by simp) ?_; (case hd => rfl); (case hg => rfl); (case hr => exact zHH); (case hp => exact (Reps.none _ _)); intro v461 w5 ho6 hb hg_ hnew_; clear hg_ hnew_; (first | rw [← Ny1.1] at ho6 | (simp only [Int.reduceToNat] at ho6; rw [← Ny1.1] at ho6)); have n0_ := zM (Kd.R_lower ho6 (below_size HB.1)); have n3_ := zM (below_step HB.1 hb); clear HB; have HO462 := n0_; have HB := n3_; clear n0_ n3_; clear hb ho6) | ((with_reducible refine gate_builtin (b := .append) (xs := #[.tmp 5, .tmp 6]) rfl ?_); at_builtin; refine Kd.R_append_rows (Kd.int .i64) (w0 := w) w.heap.size rfl (.tmp 5) (.tmp 6) 24 3 (.int .i64 0) 8 rfl Try.underlying24 info3 rfl (by decide) (by omega) v461 y1 l0 _ _ _ (fun _ => True) (fun _ => False) rfl rfl ?aO ?aR (fun _ _ h => h) (fun _ h => h.elim) ?aF ?aB ?aS ?aL ?_; (case aR => exact zC (Kd.C_below HR0.1 HB.1)); (case aB => exact zB1); (case aF => exact (fun _ _ => trivial)); (case aO => exact (zR HO462.1)); (case aS => exact (below_size zB1)); (case aL => have h1_ := LM.out; have h2_ : y1.length = 0 := (by rw [Ny1.1]; rfl); rw [h2_]; omega); intro v464 w9 ho hb hg hat; rw [Ny1.1, List.nil_append] at ho; have n2_ := zM hb; have n3_ := zM ho; clear HB; clear HO462; have HB := n2_; have HO465 := n3_; clear n2_ n3_; clear ho hb hg hat))
  go_ret
  exact ⟨_, rfl, HO465.1, HB.1⟩

/-! ### impl_copyHart: function 98 -/
def impl_copyHart.f (l0_0 : List Int) (a0_1 : Int) (a0_2 : Int) : Option (List Int × Int × Int) := (slices_Clone_int_int.f l0_0).bind fun t124 => (some (t124, a0_1, a0_2))
theorem impl_copyHart.calls (A0_0 : Option Addr) (c0_0 : Nat) (l0_0 : List Int) (a0_1 : Int) (a0_2 : Int) (r1 : List Int) (r2 : Int) (r3 : Int) (w : World) (hr0_0 : Kd.C (Kd.int .i64) w A0_0 l0_0.length l0_0) (hc0_0 : l0_0.length ≤ c0_0) (h : impl_copyHart.f l0_0 a0_1 a0_2 = some (r1, r2, r3)) :
  Calls Try.prog 98 #[.agg #[.slice A0_0 l0_0.length c0_0, .int .i64 a0_1, .int .i64 a0_2]] w fun e w' => ∃ v0_ : Value, e = .returned (.agg #[v0_, .int .i64 r2, .int .i64 r3]) ∧ Kd.R (Kd.int .i64) 3 w' w.heap.size (fun _ => True) v0_ r1 ∧ Below w.heap.size w w' := by
 have hu53 := Try.underlying53
 have HR0_0 := zM hr0_0
 have HC0_0 := zM hc0_0
 clear hr0_0 hc0_0
 have HB := zM (Below.refl w.heap.size w)
 unfold impl_copyHart.f at h
 have H := h
 clear h
 replace H := zO H
 obtain ⟨t124, A2, H⟩ := H
 simp only [Option.some.injEq, Prod.mk.injEq] at H
 obtain ⟨rfl, rfl, rfl⟩ := H
 go_enter Try.func98, Try.ntmps98
 go_wp2_with (first | ((with_reducible refine zBx 1 53 #[.slice A0_0 l0_0.length c0_0, .int .i64 a0_1, .int .i64 a0_2] ?_); intro gb122 hg w3 hbox hb; have BK122 := zM hbox; have GW122 := zM (zW hg (below_size zB1)); have GE122 := zM (zW hg (below_size zB1)); replace HB := zM (below_step zB1 hb); clear hb hbox hg) | ((with_reducible refine zBx 2 53 #[.slice none 0 0, .int .i64 0, .int .i64 0] ?_); intro gb123 hg w4 hbox hb; have BK123 := zM hbox; have GW123 := zM (zW hg (below_size zB1)); have GE123 := zM (zW hg (below_size zB1)); replace HB := zM (below_step zB1 hb); have NB122_123 := zM ((zn BK122.1 hg : gb122 ≠ gb123)); have NB123_122 := zM ((zm BK122.1 hg : gb123 ≠ gb122)); replace BK122 := zM (zb BK122.1 hb); clear hb hbox hg; have hnb5 := NB122_123.1; have hnc5 := NB123_122.1; have hcz6 := zc_3 (w := w4) BK122.1) | ((with_reducible refine zG Try.func59 5 #[.slice A0_0 l0_0.length c0_0] ?_); (with_reducible refine (slices_Clone_int_int.calls _ _ l0_0 t124 _ ?side1 ?side2 A2.1).mono ?_); (case side1 => exact zC (Kd.C_below HR0_0.1 HB.1)); (case side2 => exact HC0_0.1); rintro e w7 ⟨v125, rfl, ho0, hb⟩; refine ⟨_, rfl, ?_⟩; have HO126 := zM (Kd.R_lower ho0 (below_size zB1)); replace BK122 := zM (zb BK122.1 hb); replace BK123 := zM (zb BK123.1 hb); replace HB := zM (below_step zB1 hb); clear hb ho0; obtain ⟨Ao8, co8, eo8⟩ := Kd.R_slice HO126.1; subst eo8; have hcz9 := zc_3 (w := w7) BK122.1; have hcz10 := zc_3 (w := w7) BK123.1))
 refine bodyPost_ret (results_cell_row rfl _ _ gb123 53 #[.slice Ao8 t124.length co8, .int .i64 a0_1, .int .i64 a0_2] (0, 0) _ rfl zPq Try.underlying53 rfl (by kernel_rfl)) rfl ?_
 exact ⟨_, zE, by refine zrR ?_; exact Kd.R_mono (zfR (zfR (zfR (zgR (Kd.R_types (Kd.R_types HO126.1 BK122.1 (by decide)) BK123.1 (by decide)))))) (fun _ hk => trivial), zB1⟩

/-! ### impl_copyHarts: function 60 -/
def impl_copyHarts.l0 : Nat → List (S53) → List (S53) → Int → Int → Option ((List (S53)))
 | 0, _, _, _, _ => none
 | k + 1, x3, x7, x8, x9 => if x9 < x8 then (if 0 ≤ x9 then (if x9 < (x7.length : Int) then ((impl_copyHart.f ((rd_T53 x7 x9).f0) ((rd_T53 x7 x9).f1) ((rd_T53 x7 x9).f2)).bind fun bt132 => (if x3.length < 3518437208883 then (impl_copyHarts.l0 k (x3 ++ [(⟨bt132.1, bt132.2.1, bt132.2.2⟩ : S53)]) x7 x8 (wrap64 (x9 + 1))) else (none))) else (none)) else (none)) else (some x3)
def impl_copyHarts.f (k : Nat) (l0 : List (S53)) : Option ((List (S53))) := impl_copyHarts.l0 k (([] : List (S53))) l0 (l0.length : Int) 0
theorem impl_copyHarts.mono_l : ∀ k, (∀ y0 y1 y2 y3, LeO (impl_copyHarts.l0 k y0 y1 y2 y3) (impl_copyHarts.l0 (k + 1) y0 y1 y2 y3))
 | 0 => fun _ _ _ _ r h => by simp [impl_copyHarts.l0] at h
 | k + 1 => by
  have ih0 := impl_copyHarts.mono_l k
  ·intros
   unfold impl_copyHarts.l0
   exact zL
theorem impl_copyHarts.mono : ∀ a0 k, LeO (impl_copyHarts.f k a0) (impl_copyHarts.f (k + 1) a0) := by
 intro a0 k
 have ih0 := impl_copyHarts.mono_l k
 unfold impl_copyHarts.f
 exact zL
theorem impl_copyHarts.calls (k : Nat) (A0 : Option Addr) (c0 : Nat) (l0 : List (S53)) (r : List (S53)) (w : World) (hr0 : Kd.C k53 w A0 l0.length l0) (hc0 : l0.length ≤ c0) (h : impl_copyHarts.f k l0 = some r) :
  Calls Try.prog 60 #[.slice A0 l0.length c0] w fun e w' => ∃ v0_ : Value, e = .returned (v0_) ∧ Kd.S k53 53 w' w.heap.size (fun _ => True) v0_ r ∧ Below w.heap.size w w' := by
 have hu53 := Try.underlying53
 have HR0 := zM hr0
 have HC0 := zM hc0
 clear hr0 hc0
 have HB := zM (Below.refl w.heap.size w)
 unfold impl_copyHarts.f at h
 have H := h
 clear h
 generalize hy127 : ((([] : List (S53))) : List (S53)) = y127 at H
 have Ny127 := zM hy127.symm
 clear hy127
 have H' := zM H
 clear H
 go_enter Try.func60, Try.ntmps60
 go_wp2_with (first | ((with_reducible refine gate_dst (N := 6) rfl ?_); refine Kd.S_lit k53 _ 53 ?hg (N := 6) ?hd (xs := ([] : List (S53))) (inner := []) (ok := fun _ => True) (okp := fun _ => True) ?hr ?hp (fun _ hk => hk) trivial (Below.refl _ _) (Nat.le_refl _) (by simp) ?_; (case hd => rfl); (case hg => rfl); (case hr => exact zHH); (case hp => exact (Reps.none _ _)); intro v128 w2 ho3 hb hg_ hnew_; clear hg_ hnew_; (first | rw [← Ny127.1] at ho3 | (simp only [Int.reduceToNat] at ho3; rw [← Ny127.1] at ho3)); have HO129 := zM (Kd.S_lower ho3 (below_size zB1)); replace HB := zM (below_step zB1 hb); clear hb ho3))
 go_loopg [3, 9] k (fun kq v3 v9 w' => ∃ (x3_1 : List (S53)) (x9_1 : Int), v9 = .int .i64 x9_1 ∧ Aside0 (impl_copyHarts.l0 kq x3_1 l0 (l0.length : Int) x9_1 = some r) ∧ Aside0 (kq ≤ k) ∧ Aside0 (Kd.S k53 53 w' w.heap.size (fun _ => True) v3 x3_1) ∧ Aside0 (Below w.heap.size w w'))
 case atStart => exact ⟨(y127), (0), zJJ, H', ⟨Nat.le_refl _⟩, ⟨zS HO129.1⟩, ⟨zB1⟩⟩
 case round =>
  clear H'
  obtain ⟨x3_1, x9_1, rfl, HA, HK1, HO_3, HB⟩ := hrel
  cases gk with
  | zero => exact absurd HA.1 (by simp [impl_copyHarts.l0])
  | succ k1 =>
   have H := HA.1
   clear HA
   simp only [impl_copyHarts.l0] at H
   by_cases c4 : x9_1 < (l0.length : Int)
   rotate_left
   ·rw [if_neg c4] at H
    have c4b0 := decide_eq_false c4
    clear c4
    obtain rfl := Option.some.inj H
    go_wp2
    go_ret
    exact ⟨_, zE, zS HO_3.1, zB1⟩
   rw [if_pos c4] at H
   have c4b0 := decide_eq_true c4
   clear c4
   replace H := zIt H
   obtain ⟨c5b0, H⟩ := H
   replace H := zIt H
   obtain ⟨c6b0, H⟩ := H
   replace H := zO H
   obtain ⟨⟨t132, t135, t136⟩, A7, H⟩ := H
   try dsimp only at H
   replace H := zIn H
   obtain ⟨LMc8, H⟩ := H
   generalize hy137 : ((x3_1 ++ [(⟨t132, t135, t136⟩ : S53)]) : List (S53)) = y137 at H
   have Ny137 := zM hy137.symm
   clear hy137
   have H' := zM H
   clear H
   obtain ⟨p130, q130, ad130, A130_0, c130_0, e130, hx130_0, hx130_1, hx130_2, hl130_0, hi130_0⟩ := zRd (at_T53 HR0.1 x9_1)
   cases e130
   replace hx130_0 := zHx HB.1 hx130_0
   replace hx130_1 := zHx HB.1 hx130_1
   replace hx130_2 := zHx HB.1 hx130_2
   have HR130_0 := zM hi130_0
   have HC130_0 := zM hl130_0
   clear hi130_0 hl130_0
   go_wp2_with (first | ((with_reducible refine zBx 5 53 #[.slice none 0 0, .int .i64 0, .int .i64 0] ?_); intro gb131 hg w9 hbox hb; replace HO_3 := zM (Kd.S_below (Kd.S_elderB (zS HO_3.1) gb131 (Nat.le_of_eq hg.symm)) hb); have BK131 := zM hbox; have GW131 := zM (zW hg (below_size zB1)); have GE131 := zM (zW hg (below_size zB1)); replace HB := zM (below_step zB1 hb); clear hb hbox hg; have hcz10 := zc_3 (w := w9) BK131.1) | ((with_reducible refine zG Try.func98 15 #[.agg #[.slice A130_0 ((rd_T53 l0 x9_1).f0).length c130_0, .int .i64 ((rd_T53 l0 x9_1).f1), .int .i64 ((rd_T53 l0 x9_1).f2)]] ?_); (with_reducible refine (impl_copyHart.calls _ _ ((rd_T53 l0 x9_1).f0) ((rd_T53 l0 x9_1).f1) ((rd_T53 l0 x9_1).f2) t132 t135 t136 _ ?side1 ?side2 A7.1).mono ?_); (case side1 => exact Kd.C_below HR130_0.1 zB1); (case side2 => exact HC130_0.1); rintro e w11 ⟨v133, rfl, ho0, hb⟩; refine ⟨_, rfl, ?_⟩; replace HO_3 := zM (Kd.S_elder' (by refine zrS ?_; exact (Kd.S_mono (zfS (zfS (zfS (Kd.S_mono HO_3.1 (fun k_ hk => (⟨hk, hk.2⟩ : _ ∧ k_ ≠ gb131)))))) (fun _ h_ => h_.1))) (Kd.R_base ho0) hb); have HO134 := zM (Kd.R_lower ho0 (below_size zB1)); replace BK131 := zM (blk_below (g := gb131) (o := .cells #[.slice A130_0 ((rd_T53 l0 x9_1).f0).length c130_0, .int .i64 ((rd_T53 l0 x9_1).f1), .int .i64 ((rd_T53 l0 x9_1).f2)] 53 (0, 0)) (by exact zp3 (zK BK131.1)) hb); replace HB := zM (below_step zB1 hb); clear hb ho0; obtain ⟨Ao13, co13, eo13⟩ := Kd.R_slice HO134.1; subst eo13) | ((with_reducible refine gate_builtin (b := .append) (xs := #[.tmp 13, .tmp 16]) rfl ?_); at_builtin; refine Kd.S_append k53 (w0 := w) w.heap.size rfl (.tmp 13) (.tmp 16) 25 53 (.agg #[(.slice none 0 0), (.int .i64 0), (.int .i64 0)]) 40 rfl Try.underlying25 info53 rfl (by decide) (by omega) u3 x3_1 (⟨t132, t135, t136⟩ : S53) [.slice Ao13 t132.length co13, .int .i64 t135, .int .i64 t136] (fun k_ => k_ ≠ gb131) (fun k_ => some k_ = (.slice Ao13 t132.length co13 : Value).ownBlock) rfl rfl ?aP (fun k_ hk_ => ((Kd.R_mono (ok' := fun k_ => ((fun k_ => k_ ≠ gb131)) k_ ∧ some k_ ≠ (u3 : Value).ownBlock) (Kd.R_types (Kd.R_apart' (HO134.1) (Kd.S_typed HO_3.1) (by decide)) BK131.1 (by decide)) (fun k_ hk => ⟨hk.2, hk.1.2⟩))).1 k_ hk_.symm) ?aF ?aO ?aB ?aS ?aL ?_; (case aP => exact k53_mkM _ _ _ (⟨t132, t135, t136⟩ : S53) (Kd.R_mono (Kd.R_tight rfl (Kd.R_mono (ok' := fun k_ => ((fun k_ => k_ ≠ gb131)) k_ ∧ some k_ ≠ (u3 : Value).ownBlock) (Kd.R_types (Kd.R_apart' (HO134.1) (Kd.S_typed HO_3.1) (by decide)) BK131.1 (by decide)) (fun k_ hk => ⟨hk.2, hk.1.2⟩))) (fun _ h_ => h_))); (case aB => exact zB1); (case aF => exact (fun k_ hk => Kd.freshB (g := gb131) (o := .cells #[.slice A130_0 ((rd_T53 l0 x9_1).f0).length c130_0, .int .i64 ((rd_T53 l0 x9_1).f1), .int .i64 ((rd_T53 l0 x9_1).f2)] 53 (0, 0)) (zK BK131.1) k_ hk)); (case aO => exact (by refine zrS ?_; exact Kd.S_mono HO_3.1 (fun k_ hk => ⟨hk.1.2, fun e_ => hk.2 e_⟩))); (case aS => exact (below_size zB1)); (case aL => have := LMc8.out; omega); intro v138 w12 ho hb hg hat; rw [← Ny137.1] at ho; replace BK131 := zM (zg BK131.1 hg (Kd.S_away HO_3.1 (fun _ hk => hk.1.2))); replace HB := zM hb; have HO139 := zM ho; clear HO_3 HO134; clear ho hb hg hat))
   go_roundg k1
   case measure => have := HK1.1; omega
   case rel => exact ⟨(y137), (wrap64 (x9_1 + 1)), zJJ, H', ⟨by have := HK1.1; omega⟩, ⟨by refine zrS ?_; exact Kd.S_mono HO139.1 (fun _ hk => trivial)⟩, ⟨zB1⟩⟩

/-! ### impl_isWord: function 119 -/
def impl_isWord.f (a0 : Int) : Option (Bool) := (impl_from.f a0 0 65535).bind fun t140 => (some t140)
theorem impl_isWord.calls (a0 : Int) (r : Bool) (w : World) (h : impl_isWord.f a0 = some r) :
  Calls Try.prog 119 #[.int .i64 a0] w fun e w' => e = .returned (.bool r) ∧ Drawn0 w w' := by
 unfold impl_isWord.f at h
 have H := h
 clear h
 replace H := zO H
 obtain ⟨t140, A2, H⟩ := H
 obtain rfl := Option.some.inj H
 go_enter Try.func119, Try.ntmps119
 go_wp2_with (first | ((with_reducible refine zG Try.func62 4 #[.int .i64 a0, .int .i64 0, .int .i64 65535] ?_); (with_reducible refine (impl_from.calls a0 0 65535 t140 _ A2.1).mono ?_); rintro e w' ⟨rfl, ⟨nd, rfl⟩⟩; refine ⟨_, rfl, ?_⟩))
 go_ret
 exact ⟨zJJ, zDD⟩

/-! ### impl_wordsOk_1: function 118 -/
def impl_wordsOk_1.f (a0 : Int) : Option (Bool) := (impl_isWord.f a0).bind fun t141 => (some (!t141))
theorem impl_wordsOk_1.calls (a0 : Int) (r : Bool) (w : World) (h : impl_wordsOk_1.f a0 = some r) :
  Calls Try.prog 118 #[.int .i64 a0] w fun e w' => e = .returned (.bool r) ∧ Drawn0 w w' := by
 unfold impl_wordsOk_1.f at h
 have H := h
 clear h
 replace H := zO H
 obtain ⟨t141, A2, H⟩ := H
 obtain rfl := Option.some.inj H
 go_enter Try.func118, Try.ntmps118
 go_wp2_with (first | ((with_reducible refine zG Try.func119 4 #[.int .i64 a0] ?_); (with_reducible refine (impl_isWord.calls a0 t141 _ A2.1).mono ?_); rintro e w' ⟨rfl, ⟨nd, rfl⟩⟩; refine ⟨_, rfl, ?_⟩))
 go_ret
 exact ⟨zJJ, zDD⟩

/-! ### slices_IndexFunc_at_impl_wordsOk_1: function 110 -/
def slices_IndexFunc_at_impl_wordsOk_1.l0 : Nat → List Int → Int → Int → Option (Int)
 | 0, _, _, _ => none
 | k + 1, x0, x7, x8 => if x8 < x7 then (if 0 ≤ x8 then (if x8 < (x0.length : Int) then ((impl_wordsOk_1.f (rd x0 x8)).bind fun t143 => (if t143 = true then (some x8) else (slices_IndexFunc_at_impl_wordsOk_1.l0 k x0 x7 (wrap64 (x8 + 1))))) else (none)) else (none)) else (some (-1))
def slices_IndexFunc_at_impl_wordsOk_1.f (k : Nat) (l0 : List Int) (a1 : Int) : Option (Int) := slices_IndexFunc_at_impl_wordsOk_1.l0 k l0 (l0.length : Int) 0
theorem slices_IndexFunc_at_impl_wordsOk_1.mono_l : ∀ k, (∀ y0 y1 y2, LeO (slices_IndexFunc_at_impl_wordsOk_1.l0 k y0 y1 y2) (slices_IndexFunc_at_impl_wordsOk_1.l0 (k + 1) y0 y1 y2))
 | 0 => fun _ _ _ r h => by simp [slices_IndexFunc_at_impl_wordsOk_1.l0] at h
 | k + 1 => by
  have ih0 := slices_IndexFunc_at_impl_wordsOk_1.mono_l k
  ·intros
   unfold slices_IndexFunc_at_impl_wordsOk_1.l0
   exact zL
theorem slices_IndexFunc_at_impl_wordsOk_1.mono : ∀ a0 a1 k, LeO (slices_IndexFunc_at_impl_wordsOk_1.f k a0 a1) (slices_IndexFunc_at_impl_wordsOk_1.f (k + 1) a0 a1) := by
 intro a0 a1 k
 have ih0 := slices_IndexFunc_at_impl_wordsOk_1.mono_l k
 unfold slices_IndexFunc_at_impl_wordsOk_1.f
 exact zL
theorem slices_IndexFunc_at_impl_wordsOk_1.calls (k : Nat) (A0 : Option Addr) (c0 : Nat) (l0 : List Int) (a1 : Int) (r : Int) (w : World) (hr0 : Kd.C (Kd.int .i64) w A0 l0.length l0) (hc0 : l0.length ≤ c0) (h : slices_IndexFunc_at_impl_wordsOk_1.f k l0 a1 = some r) :
  Calls Try.prog 110 #[.slice A0 l0.length c0, .func (.func 118) #[] #[]] w fun e w' => e = .returned (.int .i64 r) ∧ Drawn0 w w' := by
 have HR0 := zM hr0
 have HC0 := zM hc0
 clear hr0 hc0
 unfold slices_IndexFunc_at_impl_wordsOk_1.f at h
 have H := h
 clear h
 have H' := zM H
 clear H
 go_enter Try.func110, Try.ntmps110
 go_wp2
 go_loopg [8] k (fun kq v8 w' => ∃ (x8_1 : Int), v8 = .int .i64 x8_1 ∧ Aside0 (slices_IndexFunc_at_impl_wordsOk_1.l0 kq l0 (l0.length : Int) x8_1 = some r) ∧ Aside0 (kq ≤ k) ∧ Drawn0 w w')
 case atStart => exact ⟨(0), zJJ, H', ⟨Nat.le_refl _⟩, zDD⟩
 case round =>
  clear H'
  obtain ⟨x8_1, rfl, HA, HK1, ⟨m1, rfl⟩⟩ := hrel
  cases gk with
  | zero => exact absurd HA.1 (by simp [slices_IndexFunc_at_impl_wordsOk_1.l0])
  | succ k1 =>
   have H := HA.1
   clear HA
   simp only [slices_IndexFunc_at_impl_wordsOk_1.l0] at H
   by_cases c3 : x8_1 < (l0.length : Int)
   rotate_left
   ·rw [if_neg c3] at H
    have c3b0 := decide_eq_false c3
    clear c3
    obtain rfl := Option.some.inj H
    go_wp2
    go_ret
    exact ⟨zJJ, zDD⟩
   rw [if_pos c3] at H
   have c3b0 := decide_eq_true c3
   clear c3
   replace H := zIt H
   obtain ⟨c4b0, H⟩ := H
   replace H := zIt H
   obtain ⟨c5b0, H⟩ := H
   replace H := zO H
   obtain ⟨t143, A6, H⟩ := H
   by_cases c7 : t143 = true
   ·subst c7
    rw [if_pos rfl] at H
    obtain rfl := Option.some.inj H
    obtain ⟨p142, q142, ad142, e142, hx142_0⟩ := zRd (Kd.at_int HR0.1 x8_1)
    cases e142
    go_wp2_with (first | (go_at_call 118; (with_reducible refine (impl_wordsOk_1.calls (rd l0 x8_1) true _ A6.1).mono ?_); rintro e w' ⟨rfl, ⟨nd, rfl⟩⟩))
    go_ret
    exact ⟨zJJ, zDD⟩
   replace c7 := Bool.eq_false_iff.mpr c7
   subst c7
   rw [if_neg zF] at H
   have H' := zM H
   clear H
   obtain ⟨p142, q142, ad142, e142, hx142_0⟩ := zRd (Kd.at_int HR0.1 x8_1)
   cases e142
   go_wp2_with (first | (go_at_call 118; (with_reducible refine (impl_wordsOk_1.calls (rd l0 x8_1) false _ A6.1).mono ?_); rintro e w' ⟨rfl, ⟨nd, rfl⟩⟩))
   go_roundg k1
   case measure => have := HK1.1; omega
   case rel => exact ⟨(wrap64 (x8_1 + 1)), zJJ, H', ⟨by have := HK1.1; omega⟩, zDD⟩

end Go.Proofs.Ytpcgecacaemalaa.PFnExactRunTo
