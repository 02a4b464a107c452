-- made by wip/tools/myprint.py out of the seat's translation
import Derived.Test.YtaakcbgpmabaaaaPFnLinkedx0
import Derived.Test.YtaakcbgpmabaaaaPFnLinkedx5
namespace Go.Proofs.Ytaakcbgpmabaaaa.PFnLinked
open Go.RowKit Go.Proofs.YtaakcbgpmabaaaaW.PrintWords Go.Proofs.YtaakcbgpmabaaaaW.PrintLast Go.Proofs.YtaakcbgpmabaaaaW.PrintMore
attribute [local go_sem] max2_int min2_int max_two min_two max_three min_three max_four min_four   -- for this text's walks alone
set_option linter.unusedVariables false
set_option linter.unusedSimpArgs false
set_option maxHeartbeats 8000000
set_option maxRecDepth 100000

/-! ### impl_isRef: function 64 -/
theorem isRef1 (g : Nat) (nm name : Int) (s1 : ByteArray) (w : World) (hc : w.cell? ⟨g, 0, none⟩ = some (.int .i64 name)) :
  Calls Try.prog 99 #[.agg #[.int .i64 nm, .string s1], .pointer (some ⟨g, 0, none⟩)] w fun e w' => e = .returned (.bool (nm == name)) ∧ Below w.heap.size w w' := by
 have hu := Try.underlying61
 have HB := zM (Below.refl w.heap.size w)
 have HC := zM hc
 clear hc
 go_enter Try.func99, Try.ntmps99
 go_wp2_with (first
  | ((with_reducible refine zBx 2 61 #[.int .i64 nm, .string s1] ?_); intro g1 hg w1 hbox hb; have BK1 := zM hbox; have HB1 := zM (below_step HB.1 hb); clear hg; have hcz0 : w1.cell? ⟨g1, 0, none⟩ = some (.int .i64 nm) := (blk_cell BK1.1 0).trans rfl; have hcn : w1.cell? ⟨g, 0, none⟩ = some (.int .i64 name) := (hb.cell (World.block_lt_of_cell? w _ HC.1)).trans HC.1; clear hb hbox HB))
 go_ret
 exact ⟨rfl, zB40⟩
/-- The first part of this name, from here on. -/
def refIdx (name : Int) : List S61 → Nat → Int
 | [], _ => -1
 | x :: r, i => if x.f0 = name then (i : Int) else refIdx name r (i + 1)
theorem refIdx_drop (name : Int) (l : List S61) (i : Nat) (h : i < l.length) : refIdx name (l.drop i) i = if (rd_T61 l (i : Int)).f0 = name then (i : Int) else refIdx name (l.drop (i + 1)) (i + 1) := by
 have e : rd_T61 l (i : Int) = l[i] := by unfold rd_T61; simp [List.getD, h]
 rw [List.drop_eq_getElem_cons h, refIdx, e]
theorem refIdx_calls (A0 : Option Addr) (c0 : Nat) (l0 : List S61) (g : Nat) (name : Int) (w : World) (hr0 : Kd.C k61 w A0 l0.length l0) (hc : w.cell? ⟨g, 0, none⟩ = some (.int .i64 name)) :
  Calls Try.prog 114 #[.slice A0 l0.length c0, .func (.func 99) #[] #[.pointer (some ⟨g, 0, none⟩)]] w fun e w' => e = .returned (.int .i64 (refIdx name l0 0)) ∧ Below w.heap.size w w' := by
 have hu61 := Try.underlying61
 have HR0 := zM hr0
 have HC := zM hc
 have HL := zM (show l0.length ≤ 9223372036854775807 from hr0.2.1)
 clear hr0 hc
 have HB := zM (Below.refl w.heap.size w)
 go_enter Try.func114, Try.ntmps114
 go_wp2
 go_loopg [8] l0.length (fun kq v8 w' => ∃ i : Nat, v8 = .int .i64 i ∧ Aside0 (i + kq = l0.length) ∧ Aside0 (refIdx name (l0.drop i) i = refIdx name l0 0) ∧ Aside0 (Below w.heap.size w w'))
 case atStart => exact ⟨0, rfl, ⟨by omega⟩, ⟨rfl⟩, ⟨HB.1⟩⟩
 case round =>
  clear HB
  obtain ⟨i, rfl, HI, HP, HB⟩ := hrel
  by_cases hi : i < l0.length
  rotate_left
  ·have d0 : decide ((i : Int) < (l0.length : Int)) = false := decide_eq_false (by omega)
   have hp := HP.1
   rw [List.drop_of_length_le (by omega)] at hp
   have HP' := zM hp
   clear hp HP
   go_wp2_with fail
   go_ret
   exact ⟨by rw [← HP'.out]; rfl, zB0⟩
  have HI2 := zM hi
  have d0 : decide ((i : Int) < (l0.length : Int)) = true := decide_eq_true (by omega)
  have hp := HP.1
  rw [refIdx_drop name l0 i hi] at hp
  obtain ⟨ad, e0, hx0, hx1⟩ := at_T61 HR0.1 (i : Int) (by omega) (by omega)
  cases e0
  replace hx0 := zHx HB.1 hx0
  replace hx1 := zHx HB.1 hx1
  simp only [Int.toNat_natCast] at hx0 hx1
  have p1 : (0 ≤ (i : Int)) = True := eq_true (by omega)
  have p2' : ((i : Int) < (l0.length : Int)) = True := eq_true (by omega)
  by_cases hn : (rd_T61 l0 (i : Int)).f0 = name
  ·rw [if_pos hn] at hp
   have HP' := zM hp
   have HN := zM (show ((rd_T61 l0 (i : Int)).f0 == name) = true from beq_iff_eq.mpr hn)
   clear hp hn HP
   go_wp2_with (first | (go_at_call 99; (refine (isRef1 g ((rd_T61 l0 (i : Int)).f0) name _ _ ((HB.1.cell (World.block_lt_of_cell? w _ HC.1)).trans HC.1)).mono ?_); rintro e w8 ⟨rfl, hb⟩; rw [HN.out]; have n0_ := zM (below_step HB.1 hb); clear HB; have HB := n0_; clear n0_ hb))
   go_ret
   exact ⟨by rw [← HP'.out]; rfl, zB0⟩
  rw [if_neg hn] at hp
  have HP' := zM hp
  have HN := zM (show ((rd_T61 l0 (i : Int)).f0 == name) = false from beq_eq_false_iff_ne.mpr hn)
  clear hp hn HP
  go_wp2_with (first | (go_at_call 99; (refine (isRef1 g ((rd_T61 l0 (i : Int)).f0) name _ _ ((HB.1.cell (World.block_lt_of_cell? w _ HC.1)).trans HC.1)).mono ?_); rintro e w8 ⟨rfl, hb⟩; rw [HN.out]; have n0_ := zM (below_step HB.1 hb); clear HB; have HB := n0_; clear n0_ hb))
  go_roundg (gk - 1)
  case rel => exact ⟨i + 1, congrArg (Value.int .i64) (by have h1_ := HI2.1; have h2_ := HL.1; show wrap64 ((i : Int) + 1) = ((i + 1 : Nat) : Int); unfold wrap64; omega), ⟨by have := HI.1; have := HI2.1; omega⟩, ⟨HP'.out⟩, ⟨HB.1⟩⟩
  all_goals (have := HI.1; have := HI2.1; omega)
theorem refHas_calls (A0 : Option Addr) (c0 : Nat) (l0 : List S61) (g : Nat) (name : Int) (w : World) (hr0 : Kd.C k61 w A0 l0.length l0) (hc : w.cell? ⟨g, 0, none⟩ = some (.int .i64 name)) :
  Calls Try.prog 98 #[.slice A0 l0.length c0, .func (.func 99) #[] #[.pointer (some ⟨g, 0, none⟩)]] w fun e w' => e = .returned (.bool (decide (0 ≤ refIdx name l0 0))) ∧ Below w.heap.size w w' := by
 have HR0 := zM hr0
 have HC := zM hc
 clear hr0 hc
 have HB := zM (Below.refl w.heap.size w)
 go_enter Try.func98, Try.ntmps98
 go_wp2_with (first
  | (go_at_call 114; (refine (refIdx_calls A0 c0 l0 g name _ HR0.1 HC.1).mono ?_); rintro e w8 ⟨rfl, hb⟩; have n0_ := zM (below_step HB.1 hb); clear HB; have HB := n0_; clear n0_ hb))
 go_ret
 exact ⟨rfl, zB0⟩
def impl_isRef.f (l0 : List S61) (a1 : Int) : Option Bool := some (decide (0 ≤ refIdx a1 l0 0))
theorem impl_isRef.calls (A0 : Option Addr) (c0 : Nat) (l0 : List S61) (a1 : Int) (r : Bool) (w : World) (hr0 : Kd.C k61 w A0 l0.length l0) (hc0 : l0.length ≤ c0) (h : impl_isRef.f l0 a1 = some r) :
  Calls Try.prog 64 #[.slice A0 l0.length c0, .int .i64 a1] w fun e w' => e = .returned (.bool r) ∧ Below w.heap.size w w' := by
 obtain rfl := Option.some.inj h
 have HR0 := zM hr0
 clear hr0 hc0 h
 have HB := zM (Below.refl w.heap.size w)
 go_enter Try.func64, Try.ntmps64
 go_wp2_with (first
  | ((with_reducible refine zBx 3 3 #[.int .i64 a1] ?_); intro g1 hg w1 hbox hb; have BK1 := zM hbox; have HB1 := zM (below_step HB.1 hb); clear hg hb hbox HB)
  | (go_at_call 98; (refine (refHas_calls A0 c0 l0 g1 a1 _ (Kd.C_below HR0.1 HB1.1) ((blk_cell BK1.1 0).trans rfl)).mono ?_); rintro e w8 ⟨rfl, hb⟩; have n0_ := zM (below_step HB1.1 hb); clear HB1; have HB1 := n0_; clear n0_ hb))
 go_ret
 exact ⟨rfl, zB40⟩

/-! ### impl_goesTo: function 65 -/
def impl_goesTo.f (a0_0 : Int) (a0_1 : Int) (a0_2 : Int) (a0_3 : Int) (a0_4 : Int) : Option (Bool) := if a0_0 = 8 then (some true) else (some (a0_0 == 7))
theorem impl_goesTo.calls (a0_0 : Int) (a0_1 : Int) (a0_2 : Int) (a0_3 : Int) (a0_4 : Int) (r : Bool) (w : World) (h : impl_goesTo.f a0_0 a0_1 a0_2 a0_3 a0_4 = some r) :
  Calls Try.prog 65 #[.agg #[.int .i64 a0_0, .int .i64 a0_1, .int .i64 a0_2, .int .i64 a0_3, .int .i64 a0_4]] w fun e w' => e = .returned (.bool r) ∧ Below w.heap.size w w' := by
 have hu57 := Try.underlying57
 have HB := zM (Below.refl w.heap.size w)
 unfold impl_goesTo.f at h
 have H := h
 clear h
 by_cases c2 : a0_0 = 8
 rotate_left
 ·rw [if_neg c2] at H
  have c2b0 : (a0_0 == 8) = false := beq_eq_false_iff_ne.mpr c2
  have c2b1 : (a0_0 != 8) = true := bne_iff_ne.mpr c2
  obtain rfl := Option.some.inj H
  go_enter Try.func65, Try.ntmps65
  go_wp2_with (first | ((with_reducible refine zBx 1 57 #[.int .i64 a0_0, .int .i64 a0_1, .int .i64 a0_2, .int .i64 a0_3, .int .i64 a0_4] ?_); intro gb305 hg w5 hbox hb; have BK305 := zM hbox; have GW305 := zM (zW hg (below_size zB0)); have GE305 := zM (zW hg (below_size zB0)); replace HB := zM (below_step zB0 hb); clear hb hbox hg; have hcz6 := zc_5 (w := w5) BK305.1))
  go_ret
  exact ⟨zE, zB0⟩
 rw [if_pos c2] at H
 have c2b0 : (a0_0 == 8) = true := beq_iff_eq.mpr c2
 have c2b1 : (a0_0 != 8) = false := bne_eq_false_iff_eq.mpr c2
 clear c2
 obtain rfl := Option.some.inj H
 go_enter Try.func65, Try.ntmps65
 go_wp2_with (first | ((with_reducible refine zBx 1 57 #[.int .i64 a0_0, .int .i64 a0_1, .int .i64 a0_2, .int .i64 a0_3, .int .i64 a0_4] ?_); intro gb305 hg w3 hbox hb; have BK305 := zM hbox; have GW305 := zM (zW hg (below_size zB0)); have GE305 := zM (zW hg (below_size zB0)); replace HB := zM (below_step zB0 hb); clear hb hbox hg; have hcz4 := zc_5 (w := w3) BK305.1))
 go_ret
 exact ⟨zE, zB0⟩

/-! ### slices_IndexFunc_at_impl_PartOk_1: function 95 -/
def slices_IndexFunc_at_impl_PartOk_1.l0 : Nat → List (S57) → Int → Int → Option (Int)
 | 0, _, _, _ => none
 | k + 1, x0, x7, x8 => if x8 < x7 then (if 0 ≤ x8 then (if x8 < (x0.length : Int) then ((impl_PartOk_1.f ((rd_T57 x0 x8).f0) ((rd_T57 x0 x8).f1) ((rd_T57 x0 x8).f2) ((rd_T57 x0 x8).f3) ((rd_T57 x0 x8).f4)).bind fun t307 => (if t307 = true then (some x8) else (slices_IndexFunc_at_impl_PartOk_1.l0 k x0 x7 (wrap64 (x8 + 1))))) else (none)) else (none)) else (some (-1))
def slices_IndexFunc_at_impl_PartOk_1.f (k : Nat) (l0 : List (S57)) (a1 : Int) : Option (Int) := slices_IndexFunc_at_impl_PartOk_1.l0 k l0 (l0.length : Int) 0
theorem slices_IndexFunc_at_impl_PartOk_1.mono_l : ∀ k, (∀ y0 y1 y2, LeO (slices_IndexFunc_at_impl_PartOk_1.l0 k y0 y1 y2) (slices_IndexFunc_at_impl_PartOk_1.l0 (k + 1) y0 y1 y2))
 | 0 => fun _ _ _ r h => by simp [slices_IndexFunc_at_impl_PartOk_1.l0] at h
 | k + 1 => by
  have ih0 := slices_IndexFunc_at_impl_PartOk_1.mono_l k
  ·intros
   unfold slices_IndexFunc_at_impl_PartOk_1.l0
   exact zL
theorem slices_IndexFunc_at_impl_PartOk_1.mono : ∀ a0 a1 k, LeO (slices_IndexFunc_at_impl_PartOk_1.f k a0 a1) (slices_IndexFunc_at_impl_PartOk_1.f (k + 1) a0 a1) := by
 intro a0 a1 k
 have ih0 := slices_IndexFunc_at_impl_PartOk_1.mono_l k
 unfold slices_IndexFunc_at_impl_PartOk_1.f
 exact zL
theorem slices_IndexFunc_at_impl_PartOk_1.calls (k : Nat) (A0 : Option Addr) (c0 : Nat) (l0 : List (S57)) (a1 : Int) (r : Int) (w : World) (hr0 : Kd.C k57 w A0 l0.length l0) (hc0 : l0.length ≤ c0) (h : slices_IndexFunc_at_impl_PartOk_1.f k l0 a1 = some r) :
  Calls Try.prog 95 #[.slice A0 l0.length c0, .func (.func 62) #[] #[]] w fun e w' => e = .returned (.int .i64 r) ∧ Below w.heap.size w w' := by
 have hu57 := Try.underlying57
 have HR0 := zM hr0
 have HC0 := zM hc0
 clear hr0 hc0
 have HB := zM (Below.refl w.heap.size w)
 unfold slices_IndexFunc_at_impl_PartOk_1.f at h
 have H := h
 clear h
 have H' := zM H
 clear H
 go_enter Try.func95, Try.ntmps95
 go_wp2
 go_loopg [8] k (fun kq v8 w' => ∃ (x8_1 : Int), v8 = .int .i64 x8_1 ∧ Aside0 (slices_IndexFunc_at_impl_PartOk_1.l0 kq l0 (l0.length : Int) x8_1 = some r) ∧ Aside0 (kq ≤ k) ∧ Aside0 (Below w.heap.size w w'))
 case atStart => exact ⟨(0), zJJ, H', ⟨Nat.le_refl _⟩, ⟨zB0⟩⟩
 case round =>
  clear H'
  obtain ⟨x8_1, rfl, HA, HK1, HB⟩ := hrel
  cases gk with
  | zero => exact absurd HA.1 (by simp [slices_IndexFunc_at_impl_PartOk_1.l0])
  | succ k1 =>
   have H := HA.1
   clear HA
   simp only [slices_IndexFunc_at_impl_PartOk_1.l0] at H
   by_cases c3 : x8_1 < (l0.length : Int)
   rotate_left
   ·rw [if_neg c3] at H
    have c3b0 := decide_eq_false c3
    clear c3
    obtain rfl := Option.some.inj H
    go_wp2
    go_ret
    exact ⟨zE, zB0⟩
   rw [if_pos c3] at H
   have c3b0 := decide_eq_true c3
   clear c3
   replace H := zIt H
   obtain ⟨c4b0, H⟩ := H
   replace H := zIt H
   obtain ⟨c5b0, H⟩ := H
   replace H := zO H
   obtain ⟨t307, A6, H⟩ := H
   by_cases c7 : t307 = true
   ·subst c7
    rw [if_pos rfl] at H
    obtain rfl := Option.some.inj H
    obtain ⟨p306, q306, ad306, e306, hx306_0, hx306_1, hx306_2, hx306_3, hx306_4⟩ := zRd (at_T57 HR0.1 x8_1)
    cases e306
    replace hx306_0 := zHx HB.1 hx306_0
    replace hx306_1 := zHx HB.1 hx306_1
    replace hx306_2 := zHx HB.1 hx306_2
    replace hx306_3 := zHx HB.1 hx306_3
    replace hx306_4 := zHx HB.1 hx306_4
    go_wp2_with (first | (go_at_call 62; (with_reducible refine (impl_PartOk_1.calls ((rd_T57 l0 x8_1).f0) ((rd_T57 l0 x8_1).f1) ((rd_T57 l0 x8_1).f2) ((rd_T57 l0 x8_1).f3) ((rd_T57 l0 x8_1).f4) true _ A6.1).mono ?_); rintro e w8 ⟨rfl, hb⟩; have n0_ := zM (below_step zB0 hb); clear HB; have HB := n0_; clear n0_; clear hb))
    go_ret
    exact ⟨zE, zB0⟩
   replace c7 := Bool.eq_false_iff.mpr c7
   subst c7
   rw [if_neg zF] at H
   have H' := zM H
   clear H
   obtain ⟨p306, q306, ad306, e306, hx306_0, hx306_1, hx306_2, hx306_3, hx306_4⟩ := zRd (at_T57 HR0.1 x8_1)
   cases e306
   replace hx306_0 := zHx HB.1 hx306_0
   replace hx306_1 := zHx HB.1 hx306_1
   replace hx306_2 := zHx HB.1 hx306_2
   replace hx306_3 := zHx HB.1 hx306_3
   replace hx306_4 := zHx HB.1 hx306_4
   go_wp2_with (first | (go_at_call 62; (with_reducible refine (impl_PartOk_1.calls ((rd_T57 l0 x8_1).f0) ((rd_T57 l0 x8_1).f1) ((rd_T57 l0 x8_1).f2) ((rd_T57 l0 x8_1).f3) ((rd_T57 l0 x8_1).f4) false _ A6.1).mono ?_); rintro e w9 ⟨rfl, hb⟩; have n0_ := zM (below_step zB0 hb); clear HB; have HB := n0_; clear n0_; clear hb))
   go_roundg k1
   case measure => have := HK1.1; omega
   case rel => exact ⟨(wrap64 (x8_1 + 1)), zJJ, H', ⟨by have := HK1.1; omega⟩, ⟨zB0⟩⟩

/-! ### slices_ContainsFunc_at_impl_PartOk_1: function 61 -/
def slices_ContainsFunc_at_impl_PartOk_1.f (k : Nat) (l0 : List (S57)) (a1 : Int) : Option (Bool) := (slices_IndexFunc_at_impl_PartOk_1.f k l0 0).bind fun t308 => (some (decide (t308 ≥ 0)))
theorem slices_ContainsFunc_at_impl_PartOk_1.mono : ∀ a0 a1 k, LeO (slices_ContainsFunc_at_impl_PartOk_1.f k a0 a1) (slices_ContainsFunc_at_impl_PartOk_1.f (k + 1) a0 a1) := by
 intro a0 a1 k
 unfold slices_ContainsFunc_at_impl_PartOk_1.f
 have mo0 := @slices_IndexFunc_at_impl_PartOk_1.mono
 exact zL
theorem slices_ContainsFunc_at_impl_PartOk_1.calls (k : Nat) (A0 : Option Addr) (c0 : Nat) (l0 : List (S57)) (a1 : Int) (r : Bool) (w : World) (hr0 : Kd.C k57 w A0 l0.length l0) (hc0 : l0.length ≤ c0) (h : slices_ContainsFunc_at_impl_PartOk_1.f k l0 a1 = some r) :
  Calls Try.prog 61 #[.slice A0 l0.length c0, .func (.func 62) #[] #[]] w fun e w' => e = .returned (.bool r) ∧ Below w.heap.size w w' := by
 have HR0 := zM hr0
 have HC0 := zM hc0
 clear hr0 hc0
 have HB := zM (Below.refl w.heap.size w)
 unfold slices_ContainsFunc_at_impl_PartOk_1.f at h
 have H := h
 clear h
 replace H := zO H
 obtain ⟨t308, A3, H⟩ := H
 obtain rfl := Option.some.inj H
 go_enter Try.func61, Try.ntmps61
 go_wp2_with (first | ((with_reducible refine zG Try.func95 7 #[.slice A0 l0.length c0, .func (.func 62) #[] #[]] ?_); (with_reducible refine (slices_IndexFunc_at_impl_PartOk_1.calls k _ _ l0 0 t308 _ ?side1 ?side2 A3.1).mono ?_); (case side1 => exact zC HR0.1); (case side2 => exact HC0.1); rintro e w4 ⟨rfl, hb⟩; refine ⟨_, rfl, ?_⟩; replace HB := zM (below_step zB0 hb); clear hb))
 go_ret
 exact ⟨zE, zB0⟩

end Go.Proofs.Ytaakcbgpmabaaaa.PFnLinked
