-- made by wip/tools/myprint.py out of the seat's translation
import Derived.Test.YtnekcbajadnldaaPFnMovedx0
import Derived.Test.YtnekcbajadnldaaPFnMovedx6
namespace Go.Proofs.Ytnekcbajadnldaa.PFnMoved
open Go.RowKit Go.Proofs.YtnekcbajadnldaaW.PrintWords Go.Proofs.YtnekcbajadnldaaW.PrintLast Go.Proofs.YtnekcbajadnldaaW.PrintMore
attribute [local go_sem] max2_int min2_int max_two min_two max_three min_three max_four min_four   -- for this text's walks alone
set_option linter.unusedVariables false
set_option linter.unusedSimpArgs false
theorem zc7_5 {w : World} {g : Nat} {a0 a1 a2 a3 a4 : Value} {t : TypeId} (h : w.heap[g]? = some (.cells #[a0, a1, a2, a3, a4] t (0, 0))) : w.cell? ⟨g, 0, none⟩ = some a0 ∧ w.cell? ⟨g, 1, none⟩ = some a1 ∧ w.cell? ⟨g, 2, none⟩ = some a2 ∧ w.cell? ⟨g, 3, none⟩ = some a3 ∧ w.cell? ⟨g, 4, none⟩ = some a4 ∧ w.frozen? ⟨g, 0, none⟩ = false ∧ w.frozen? ⟨g, 1, none⟩ = false ∧ w.frozen? ⟨g, 2, none⟩ = false ∧ w.frozen? ⟨g, 3, none⟩ = false ∧ w.frozen? ⟨g, 4, none⟩ = false := ⟨(blk_cell h 0).trans rfl, (blk_cell h 1).trans rfl, (blk_cell h 2).trans rfl, (blk_cell h 3).trans rfl, (blk_cell h 4).trans rfl, blk_frozen h 0, blk_frozen h 1, blk_frozen h 2, blk_frozen h 3, blk_frozen h 4⟩
theorem zA7 {p : Prop} [Decidable p] (h : decide p = true := by first | (with_reducible assumption) | assumption) : p := of_decide_eq_true h
theorem zT7 {p : Prop} (h : p := by (try simp only [List.map_toArray, List.map_cons, List.map_nil]); first | done | rfl | (simp only [List.length_drop, List.length_take]; rfl)) : p := h
theorem zC7 {p q : Prop} (x : q) (h : q → p := by intro h; repeat (first | exact h | (with_reducible refine Kd.C_alloc ?_ _) | (with_reducible refine Kd.C_drewN ?_ _) | (with_reducible refine Kd.C_drew ?_))) : p := h x
theorem zE7 {p : Prop} (h : p := by first | rfl | (simp [errW_none, errW_some] <;> rfl) | (simp [*, errW_none, errW_some] <;> rfl)) : p := h
theorem zB7_0 {p : Prop} (h : p := by repeat (first | (with_reducible first | exact HB1.out | apply below_alloc | apply pw_below_drewN | apply below_drew1) | exact HB1.out)) : p := h
theorem zB7_1 {p : Prop} (h : p := by repeat (first | (with_reducible first | exact HB.out | apply below_alloc | apply pw_below_drewN | apply below_drew1) | exact HB.out)) : p := h
theorem zB7_2 {p : Prop} (h : p := by repeat (first | (with_reducible first | exact HB.out | apply below_alloc | apply pw_below_drewN | apply below_drew1 | refine below_set ?_ GE288.out) | exact HB.out)) : p := h

/-! ### impl_isRef: function 111 -/
set_option maxHeartbeats 4000000 in
set_option maxRecDepth 100000 in
theorem isRef1 (g : Nat) (nm name : Int) (s1 : ByteArray) (w : World) (hc : w.cell? ⟨g, 0, none⟩ = some (.int .i64 name)) :
  Calls Try.prog 162 #[.agg #[.int .i64 nm, .string s1], .pointer (some ⟨g, 0, none⟩)] w fun e w' => e = .returned (.bool (nm == name)) ∧ Below w.heap.size w w' := by
 have hu := Try.underlying56
 have HB := Aside0.mk (Below.refl w.heap.size w)
 have HC := Aside0.mk hc
 clear hc
 go_enter Try.func162, Try.ntmps162
 go_wp2_with (first
  | ((with_reducible refine gate_dst (N := 2) rfl ?_); refine box_event ?hg (N := 2) ?hd (cs := #[.int .i64 nm, .string s1]) (t := 56) ?hr ?_; (case hd => rfl); (case hg => rfl); (case hr => first | (go_simp; done) | (go_simp; rfl)); intro g1 hg w1 hbox hb; have BK1 := Aside0.mk hbox; have HB1 := Aside0.mk (below_step HB.out hb); clear hg; have hcz0 : w1.cell? ⟨g1, 0, none⟩ = some (.int .i64 nm) := (blk_cell BK1.out 0).trans rfl; have hcn : w1.cell? ⟨g, 0, none⟩ = some (.int .i64 name) := (hb.cell (World.block_lt_of_cell? w _ HC.out)).trans HC.out; clear hb hbox HB))
 go_ret
 exact ⟨rfl, zB7_0⟩
/-- The first part of this name, from here on. -/
def refIdx (name : Int) : List S56 → Nat → Int
 | [], _ => -1
 | x :: r, i => if x.f0 = name then (i : Int) else refIdx name r (i + 1)
theorem refIdx_drop (name : Int) (l : List S56) (i : Nat) (h : i < l.length) : refIdx name (l.drop i) i = if (rd_T56 l (i : Int)).f0 = name then (i : Int) else refIdx name (l.drop (i + 1)) (i + 1) := by
 have e : rd_T56 l (i : Int) = l[i] := by unfold rd_T56; simp [List.getD, h]
 rw [List.drop_eq_getElem_cons h, refIdx, e]
set_option maxHeartbeats 8000000 in
set_option maxRecDepth 100000 in
theorem refIdx_calls (A0 : Option Addr) (c0 : Nat) (l0 : List S56) (g : Nat) (name : Int) (w : World) (hr0 : Kd.C k56 w A0 l0.length l0) (hc : w.cell? ⟨g, 0, none⟩ = some (.int .i64 name)) :
  Calls Try.prog 197 #[.slice A0 l0.length c0, .func (.func 162) #[] #[.pointer (some ⟨g, 0, none⟩)]] w fun e w' => e = .returned (.int .i64 (refIdx name l0 0)) ∧ Below w.heap.size w w' := by
 have hu56 := Try.underlying56
 have HR0 := Aside0.mk hr0
 have HC := Aside0.mk hc
 have HL := Aside0.mk (show l0.length ≤ 9223372036854775807 from hr0.2.1)
 clear hr0 hc
 have HB := Aside0.mk (Below.refl w.heap.size w)
 go_enter Try.func197, Try.ntmps197
 go_wp2
 go_loopg [8] l0.length (fun kq v8 w' => ∃ i : Nat, v8 = .int .i64 i ∧ Aside0 (i + kq = l0.length) ∧ Aside0 (refIdx name (l0.drop i) i = refIdx name l0 0) ∧ Aside0 (Below w.heap.size w w'))
 case atStart => exact ⟨0, rfl, ⟨by omega⟩, ⟨rfl⟩, ⟨HB.out⟩⟩
 case round =>
  try clear p2
  clear HB
  obtain ⟨i, rfl, HI, HP, HB⟩ := hrel
  by_cases hi : i < l0.length
  rotate_left
  ·have d0 : decide ((i : Int) < (l0.length : Int)) = false := decide_eq_false (by omega)
   have hp := HP.out
   rw [List.drop_of_length_le (by omega)] at hp
   have HP' := Aside0.mk hp
   clear hp HP
   go_wp2_with fail
   go_ret
   exact ⟨by rw [← HP'.out]; rfl, zB7_1⟩
  have HI2 := Aside0.mk hi
  have d0 : decide ((i : Int) < (l0.length : Int)) = true := decide_eq_true (by omega)
  have hp := HP.out
  rw [refIdx_drop name l0 i hi] at hp
  obtain ⟨ad, e0, hx0, hx1⟩ := at_T56 HR0.out (i : Int) (by omega) (by omega)
  cases e0
  replace hx0 := (HB.out.cell (World.block_lt_of_cell? w _ hx0)).trans hx0
  replace hx1 := (HB.out.cell (World.block_lt_of_cell? w _ hx1)).trans hx1
  simp only [Int.toNat_natCast] at hx0 hx1
  have p1 : (0 ≤ (i : Int)) = True := eq_true (by omega)
  have p2' : ((i : Int) < (l0.length : Int)) = True := eq_true (by omega)
  by_cases hn : (rd_T56 l0 (i : Int)).f0 = name
  ·rw [if_pos hn] at hp
   have HP' := Aside0.mk hp
   have HN := Aside0.mk (show ((rd_T56 l0 (i : Int)).f0 == name) = true from beq_iff_eq.mpr hn)
   clear hp hn HP
   go_wp2_with (first | (go_at_call 162; (refine (isRef1 g ((rd_T56 l0 (i : Int)).f0) name _ _ ((HB.out.cell (World.block_lt_of_cell? w _ HC.out)).trans HC.out)).mono ?_); rintro e w8 ⟨rfl, hb⟩; rw [HN.out]; have n0_ := Aside0.mk (below_step HB.out hb); clear HB; have HB := n0_; clear n0_ hb))
   go_ret
   exact ⟨by rw [← HP'.out]; rfl, zB7_1⟩
  rw [if_neg hn] at hp
  have HP' := Aside0.mk hp
  have HN := Aside0.mk (show ((rd_T56 l0 (i : Int)).f0 == name) = false from beq_eq_false_iff_ne.mpr hn)
  clear hp hn HP
  go_wp2_with (first | (go_at_call 162; (refine (isRef1 g ((rd_T56 l0 (i : Int)).f0) name _ _ ((HB.out.cell (World.block_lt_of_cell? w _ HC.out)).trans HC.out)).mono ?_); rintro e w8 ⟨rfl, hb⟩; rw [HN.out]; have n0_ := Aside0.mk (below_step HB.out hb); clear HB; have HB := n0_; clear n0_ hb))
  go_roundg (gk - 1)
  case rel => exact ⟨i + 1, congrArg (Value.int .i64) (by have h1_ := HI2.out; have h2_ := HL.out; show wrap64 ((i : Int) + 1) = ((i + 1 : Nat) : Int); unfold wrap64; omega), ⟨by have := HI.out; have := HI2.out; omega⟩, ⟨HP'.out⟩, ⟨HB.out⟩⟩
  all_goals (have := HI.out; have := HI2.out; omega)
set_option maxHeartbeats 4000000 in
set_option maxRecDepth 100000 in
theorem refHas_calls (A0 : Option Addr) (c0 : Nat) (l0 : List S56) (g : Nat) (name : Int) (w : World) (hr0 : Kd.C k56 w A0 l0.length l0) (hc : w.cell? ⟨g, 0, none⟩ = some (.int .i64 name)) :
  Calls Try.prog 161 #[.slice A0 l0.length c0, .func (.func 162) #[] #[.pointer (some ⟨g, 0, none⟩)]] w fun e w' => e = .returned (.bool (decide (0 ≤ refIdx name l0 0))) ∧ Below w.heap.size w w' := by
 have HR0 := Aside0.mk hr0
 have HC := Aside0.mk hc
 clear hr0 hc
 have HB := Aside0.mk (Below.refl w.heap.size w)
 go_enter Try.func161, Try.ntmps161
 go_wp2_with (first
  | (go_at_call 197; (refine (refIdx_calls A0 c0 l0 g name _ HR0.out HC.out).mono ?_); rintro e w8 ⟨rfl, hb⟩; have n0_ := Aside0.mk (below_step HB.out hb); clear HB; have HB := n0_; clear n0_ hb))
 go_ret
 exact ⟨rfl, zB7_1⟩
def impl_isRef.f (l0 : List S56) (a1 : Int) : Option Bool := some (decide (0 ≤ refIdx a1 l0 0))
set_option maxHeartbeats 4000000 in
set_option maxRecDepth 100000 in
theorem impl_isRef.calls (A0 : Option Addr) (c0 : Nat) (l0 : List S56) (a1 : Int) (r : Bool) (w : World) (hr0 : Kd.C k56 w A0 l0.length l0) (hc0 : l0.length ≤ c0) (h : impl_isRef.f l0 a1 = some r) :
  Calls Try.prog 111 #[.slice A0 l0.length c0, .int .i64 a1] w fun e w' => e = .returned (.bool r) ∧ Below w.heap.size w w' := by
 obtain rfl := Option.some.inj h
 have HR0 := Aside0.mk hr0
 clear hr0 hc0 h
 have HB := Aside0.mk (Below.refl w.heap.size w)
 go_enter Try.func111, Try.ntmps111
 go_wp2_with (first
  | ((with_reducible refine gate_dst (N := 3) rfl ?_); refine box_event ?hg (N := 3) ?hd (cs := #[.int .i64 a1]) (t := 3) ?hr ?_; (case hd => rfl); (case hg => rfl); (case hr => first | (go_simp; done) | (go_simp; rfl)); intro g1 hg w1 hbox hb; have BK1 := Aside0.mk hbox; have HB1 := Aside0.mk (below_step HB.out hb); clear hg hb hbox HB)
  | (go_at_call 161; (refine (refHas_calls A0 c0 l0 g1 a1 _ (Kd.C_below HR0.out HB1.out) ((blk_cell BK1.out 0).trans rfl)).mono ?_); rintro e w8 ⟨rfl, hb⟩; have n0_ := Aside0.mk (below_step HB1.out hb); clear HB1; have HB1 := n0_; clear n0_ hb))
 go_ret
 exact ⟨rfl, zB7_0⟩

/-! ### impl_goesTo: function 112 -/
def impl_goesTo.f (a0_0 : Int) (a0_1 : Int) (a0_2 : Int) (a0_3 : Int) (a0_4 : Int) : Option (Bool) := if a0_0 = 8 then (some true) else (some (a0_0 == 7))
set_option maxHeartbeats 8000000 in
set_option maxRecDepth 100000 in
theorem impl_goesTo.calls (a0_0 : Int) (a0_1 : Int) (a0_2 : Int) (a0_3 : Int) (a0_4 : Int) (r : Bool) (w : World) (h : impl_goesTo.f a0_0 a0_1 a0_2 a0_3 a0_4 = some r) :
  Calls Try.prog 112 #[.agg #[.int .i64 a0_0, .int .i64 a0_1, .int .i64 a0_2, .int .i64 a0_3, .int .i64 a0_4]] w fun e w' => e = .returned (.bool r) ∧ Below w.heap.size w w' := by
 have hu52 := Try.underlying52
 have HB := Aside0.mk (Below.refl w.heap.size w)
 have H : (if a0_0 = 8 then (some true) else (some (a0_0 == 7))) = some r := h
 clear h
 by_cases c2 : a0_0 = 8
 rotate_left
 ·rw [if_neg c2] at H
  have c2b0 : (a0_0 == 8) = false := beq_eq_false_iff_ne.mpr c2
  have c2b1 : (a0_0 != 8) = true := bne_iff_ne.mpr c2
  obtain rfl := Option.some.inj H
  go_enter Try.func112, Try.ntmps112
  go_wp2_with (first | ((with_reducible refine gate_dst (N := 1) rfl ?_); refine box_event ?hg (N := 1) ?hd (cs := #[.int .i64 a0_0, .int .i64 a0_1, .int .i64 a0_2, .int .i64 a0_3, .int .i64 a0_4]) (t := 52) ?hr ?_; (case hd => rfl); (case hg => rfl); (case hr => first | (go_simp; done) | (go_simp; rfl)); intro gb288 hg w5 hbox hb; have n0_ := Aside0.mk (below_step (zB7_1) hb); have n1_ := Aside0.mk (hbox); have n2_ := Aside0.mk ((by rw [hg]; exact (below_size (zB7_1)) : w.heap.size ≤ gb288)); have n3_ := Aside0.mk ((by rw [hg]; exact (below_size (zB7_1)) : w.heap.size ≤ gb288)); clear HB; have HB := n0_; have BK288 := n1_; have GW288 := n2_; have GE288 := n3_; clear n0_ n1_ n2_ n3_; clear hb hbox hg; obtain ⟨hcz6_0, hcz6_1, hcz6_2, hcz6_3, hcz6_4, hfz6_0, hfz6_1, hfz6_2, hfz6_3, hfz6_4⟩ := zc7_5 (w := w5) BK288.out))
  go_ret
  exact ⟨zE7, zB7_2⟩
 rw [if_pos c2] at H
 have c2b0 : (a0_0 == 8) = true := beq_iff_eq.mpr c2
 have c2b1 : (a0_0 != 8) = false := bne_eq_false_iff_eq.mpr c2
 clear c2
 obtain rfl := Option.some.inj H
 go_enter Try.func112, Try.ntmps112
 go_wp2_with (first | ((with_reducible refine gate_dst (N := 1) rfl ?_); refine box_event ?hg (N := 1) ?hd (cs := #[.int .i64 a0_0, .int .i64 a0_1, .int .i64 a0_2, .int .i64 a0_3, .int .i64 a0_4]) (t := 52) ?hr ?_; (case hd => rfl); (case hg => rfl); (case hr => first | (go_simp; done) | (go_simp; rfl)); intro gb288 hg w3 hbox hb; have n0_ := Aside0.mk (below_step (zB7_1) hb); have n1_ := Aside0.mk (hbox); have n2_ := Aside0.mk ((by rw [hg]; exact (below_size (zB7_1)) : w.heap.size ≤ gb288)); have n3_ := Aside0.mk ((by rw [hg]; exact (below_size (zB7_1)) : w.heap.size ≤ gb288)); clear HB; have HB := n0_; have BK288 := n1_; have GW288 := n2_; have GE288 := n3_; clear n0_ n1_ n2_ n3_; clear hb hbox hg; obtain ⟨hcz4_0, hcz4_1, hcz4_2, hcz4_3, hcz4_4, hfz4_0, hfz4_1, hfz4_2, hfz4_3, hfz4_4⟩ := zc7_5 (w := w3) BK288.out))
 go_ret
 exact ⟨zE7, zB7_2⟩

/-! ### slices_IndexFunc_at_impl_PartOk_1: function 158 -/
def slices_IndexFunc_at_impl_PartOk_1.l0 : Nat → List (S52) → Int → Int → Option (Int)
 | 0, _, _, _ => none
 | k + 1, x0, x7, x8 => if x8 < x7 then (if 0 ≤ x8 then (if x8 < (x0.length : Int) then ((impl_PartOk_1.f ((rd_T52 x0 x8).f0) ((rd_T52 x0 x8).f1) ((rd_T52 x0 x8).f2) ((rd_T52 x0 x8).f3) ((rd_T52 x0 x8).f4)).bind fun t290 => (if t290 = true then (some x8) else (slices_IndexFunc_at_impl_PartOk_1.l0 k x0 x7 (wrap64 (x8 + 1))))) else (none)) else (none)) else (some (-1))
def slices_IndexFunc_at_impl_PartOk_1.f (k : Nat) (l0 : List (S52)) (a1 : Int) : Option (Int) := slices_IndexFunc_at_impl_PartOk_1.l0 k l0 (l0.length : Int) 0
theorem slices_IndexFunc_at_impl_PartOk_1.mono_l : ∀ k, (∀ y0 y1 y2, LeO (slices_IndexFunc_at_impl_PartOk_1.l0 k y0 y1 y2) (slices_IndexFunc_at_impl_PartOk_1.l0 (k + 1) y0 y1 y2))
 | 0 => fun _ _ _ r h => by simp [slices_IndexFunc_at_impl_PartOk_1.l0] at h
 | k + 1 => by
  have ih0 := slices_IndexFunc_at_impl_PartOk_1.mono_l k
  ·intro y0 y1 y2
   unfold slices_IndexFunc_at_impl_PartOk_1.l0
   repeat' first
   | (with_reducible exact ih0 _ _ _)
   | (with_reducible exact LeO.refl _)
   | (with_reducible exact LeO.none _)
   | (with_reducible refine LeO.ite ?_ ?_)
   | (with_reducible refine LeO.bind ?_ (fun _ => ?_))
   | exact ih0 _ _ _
   | exact LeO.none _
   | refine LeO.ite ?_ ?_
   | refine LeO.bind ?_ (fun _ => ?_)
theorem slices_IndexFunc_at_impl_PartOk_1.mono : ∀ a0 a1 k, LeO (slices_IndexFunc_at_impl_PartOk_1.f k a0 a1) (slices_IndexFunc_at_impl_PartOk_1.f (k + 1) a0 a1) := by
 intro a0 a1 k
 have ih0 := slices_IndexFunc_at_impl_PartOk_1.mono_l k
 unfold slices_IndexFunc_at_impl_PartOk_1.f
 repeat' first
   | (with_reducible exact ih0 _ _ _)
   | (with_reducible exact LeO.refl _)
   | (with_reducible exact LeO.none _)
   | (with_reducible refine LeO.ite ?_ ?_)
   | (with_reducible refine LeO.bind ?_ (fun _ => ?_))
   | exact ih0 _ _ _
   | exact LeO.none _
   | refine LeO.ite ?_ ?_
   | refine LeO.bind ?_ (fun _ => ?_)
set_option maxHeartbeats 8000000 in
set_option maxRecDepth 100000 in
theorem slices_IndexFunc_at_impl_PartOk_1.calls (k : Nat) (A0 : Option Addr) (c0 : Nat) (l0 : List (S52)) (a1 : Int) (r : Int) (w : World) (hr0 : Kd.C k52 w A0 l0.length l0) (hc0 : l0.length ≤ c0) (h : slices_IndexFunc_at_impl_PartOk_1.f k l0 a1 = some r) :
  Calls Try.prog 158 #[.slice A0 l0.length c0, .func (.func 109) #[] #[]] w fun e w' => e = .returned (.int .i64 r) ∧ Below w.heap.size w w' := by
 have hu52 := Try.underlying52
 have HR0 := Aside0.mk hr0
 have HC0 := Aside0.mk hc0
 clear hr0 hc0
 have HB := Aside0.mk (Below.refl w.heap.size w)
 have H : (slices_IndexFunc_at_impl_PartOk_1.l0 k l0 (l0.length : Int) 0) = some r := h
 clear h
 have H' := Aside0.mk H
 clear H
 go_enter Try.func158, Try.ntmps158
 go_wp2
 go_loopg [8] k (fun kq v8 w' => ∃ (x8_1 : Int), v8 = .int .i64 x8_1 ∧ Aside0 (slices_IndexFunc_at_impl_PartOk_1.l0 kq l0 (l0.length : Int) x8_1 = some r) ∧ Aside0 (kq ≤ k) ∧ Aside0 (Below w.heap.size w w'))
 case atStart => exact ⟨(0), (by first | rfl | (simp; done) | (simp [*]; done)), H', ⟨Nat.le_refl _⟩, ⟨zB7_1⟩⟩
 case round =>
  clear H'
  try clear p2
  obtain ⟨x8_1, rfl, HA, HK1, HB⟩ := hrel
  cases gk with
  | zero => exact absurd HA.out (by simp [slices_IndexFunc_at_impl_PartOk_1.l0])
  | succ k1 =>
   have H := HA.out
   clear HA
   simp only [slices_IndexFunc_at_impl_PartOk_1.l0] at H
   by_cases c3 : x8_1 < (l0.length : Int)
   rotate_left
   ·rw [if_neg c3] at H
    have c3b0 : decide (x8_1 < (l0.length : Int)) = false := decide_eq_false c3
    clear c3
    obtain rfl := Option.some.inj H
    go_wp2
    go_ret
    exact ⟨zE7, zB7_1⟩
   rw [if_pos c3] at H
   have c3b0 : decide (x8_1 < (l0.length : Int)) = true := decide_eq_true c3
   clear c3
   by_cases c4 : 0 ≤ x8_1
   rotate_left
   ·rw [if_neg c4] at H
    exact absurd H (by simp)
   rw [if_pos c4] at H
   have c4b0 : decide (0 ≤ x8_1) = true := decide_eq_true c4
   clear c4
   by_cases c5 : x8_1 < (l0.length : Int)
   rotate_left
   ·rw [if_neg c5] at H
    exact absurd H (by simp)
   rw [if_pos c5] at H
   have c5b0 : decide (x8_1 < (l0.length : Int)) = true := decide_eq_true c5
   clear c5
   replace H := Option.bind_eq_some_iff.mp H
   obtain ⟨t290, A60, H⟩ := H
   replace H : (if t290 = true then (some x8_1) else (slices_IndexFunc_at_impl_PartOk_1.l0 k1 l0 (l0.length : Int) (wrap64 (x8_1 + 1)))) = some r := H
   have A6 := Aside0.mk A60
   clear A60
   by_cases c7 : t290 = true
   ·subst c7
    have H1 : (some x8_1) = some r := by rw [if_pos rfl] at H; exact H
    clear H
    have H := H1
    clear H1
    obtain rfl := Option.some.inj H
    have p289 : 0 ≤ (x8_1 : Int) := zA7
    have q289 : x8_1 < (l0.length : Int) := zA7
    obtain ⟨ad289, e289, hx289_0, hx289_1, hx289_2, hx289_3, hx289_4⟩ := at_T52 HR0.out x8_1 p289 q289
    cases e289
    replace hx289_0 := (HB.out.cell (World.block_lt_of_cell? w _ hx289_0)).trans hx289_0
    replace hx289_1 := (HB.out.cell (World.block_lt_of_cell? w _ hx289_1)).trans hx289_1
    replace hx289_2 := (HB.out.cell (World.block_lt_of_cell? w _ hx289_2)).trans hx289_2
    replace hx289_3 := (HB.out.cell (World.block_lt_of_cell? w _ hx289_3)).trans hx289_3
    replace hx289_4 := (HB.out.cell (World.block_lt_of_cell? w _ hx289_4)).trans hx289_4
    replace p289 := eq_true p289
    replace q289 := eq_true q289
    go_wp2_with (first | (go_at_call 109; (with_reducible refine (impl_PartOk_1.calls ((rd_T52 l0 x8_1).f0) ((rd_T52 l0 x8_1).f1) ((rd_T52 l0 x8_1).f2) ((rd_T52 l0 x8_1).f3) ((rd_T52 l0 x8_1).f4) true _ A6.out).mono ?_); rintro e w8 ⟨rfl, hb⟩; have n0_ := Aside0.mk (below_step (zB7_1) hb); clear HB; have HB := n0_; clear n0_; (try clear hb); (try clear hb2); (try clear hk); (try clear hi)))
    go_ret
    exact ⟨zE7, zB7_1⟩
   replace c7 := Bool.eq_false_iff.mpr c7
   subst c7
   have H1 : (slices_IndexFunc_at_impl_PartOk_1.l0 k1 l0 (l0.length : Int) (wrap64 (x8_1 + 1))) = some r := by rw [if_neg (show ¬ (false = true) by decide)] at H; exact H
   clear H
   have H := H1
   clear H1
   have H' := Aside0.mk H
   clear H
   have p289 : 0 ≤ (x8_1 : Int) := zA7
   have q289 : x8_1 < (l0.length : Int) := zA7
   obtain ⟨ad289, e289, hx289_0, hx289_1, hx289_2, hx289_3, hx289_4⟩ := at_T52 HR0.out x8_1 p289 q289
   cases e289
   replace hx289_0 := (HB.out.cell (World.block_lt_of_cell? w _ hx289_0)).trans hx289_0
   replace hx289_1 := (HB.out.cell (World.block_lt_of_cell? w _ hx289_1)).trans hx289_1
   replace hx289_2 := (HB.out.cell (World.block_lt_of_cell? w _ hx289_2)).trans hx289_2
   replace hx289_3 := (HB.out.cell (World.block_lt_of_cell? w _ hx289_3)).trans hx289_3
   replace hx289_4 := (HB.out.cell (World.block_lt_of_cell? w _ hx289_4)).trans hx289_4
   replace p289 := eq_true p289
   replace q289 := eq_true q289
   go_wp2_with (first | (go_at_call 109; (with_reducible refine (impl_PartOk_1.calls ((rd_T52 l0 x8_1).f0) ((rd_T52 l0 x8_1).f1) ((rd_T52 l0 x8_1).f2) ((rd_T52 l0 x8_1).f3) ((rd_T52 l0 x8_1).f4) false _ A6.out).mono ?_); rintro e w9 ⟨rfl, hb⟩; have n0_ := Aside0.mk (below_step (zB7_1) hb); clear HB; have HB := n0_; clear n0_; (try clear hb); (try clear hb2); (try clear hk); (try clear hi)))
   go_roundg k1
   case measure => have := HK1.out; omega
   case rel => exact ⟨(wrap64 (x8_1 + 1)), (by first | rfl | (simp; done) | (simp [*]; done)), H', ⟨by have := HK1.out; omega⟩, ⟨zB7_1⟩⟩

/-! ### slices_ContainsFunc_at_impl_PartOk_1: function 108 -/
def slices_ContainsFunc_at_impl_PartOk_1.f (k : Nat) (l0 : List (S52)) (a1 : Int) : Option (Bool) := (slices_IndexFunc_at_impl_PartOk_1.f k l0 0).bind fun t291 => (some (decide (t291 ≥ 0)))
theorem slices_ContainsFunc_at_impl_PartOk_1.mono : ∀ a0 a1 k, LeO (slices_ContainsFunc_at_impl_PartOk_1.f k a0 a1) (slices_ContainsFunc_at_impl_PartOk_1.f (k + 1) a0 a1) := by
 intro a0 a1 k
 unfold slices_ContainsFunc_at_impl_PartOk_1.f
 repeat' first
   | (with_reducible exact slices_IndexFunc_at_impl_PartOk_1.mono _ _ _)
   | (with_reducible exact LeO.refl _)
   | (with_reducible exact LeO.none _)
   | (with_reducible refine LeO.ite ?_ ?_)
   | (with_reducible refine LeO.bind ?_ (fun _ => ?_))
   | exact slices_IndexFunc_at_impl_PartOk_1.mono _ _ _
   | exact LeO.none _
   | refine LeO.ite ?_ ?_
   | refine LeO.bind ?_ (fun _ => ?_)
set_option maxHeartbeats 8000000 in
set_option maxRecDepth 100000 in
theorem slices_ContainsFunc_at_impl_PartOk_1.calls (k : Nat) (A0 : Option Addr) (c0 : Nat) (l0 : List (S52)) (a1 : Int) (r : Bool) (w : World) (hr0 : Kd.C k52 w A0 l0.length l0) (hc0 : l0.length ≤ c0) (h : slices_ContainsFunc_at_impl_PartOk_1.f k l0 a1 = some r) :
  Calls Try.prog 108 #[.slice A0 l0.length c0, .func (.func 109) #[] #[]] w fun e w' => e = .returned (.bool r) ∧ Below w.heap.size w w' := by
 have HR0 := Aside0.mk hr0
 have HC0 := Aside0.mk hc0
 clear hr0 hc0
 have HB := Aside0.mk (Below.refl w.heap.size w)
 have H : ((slices_IndexFunc_at_impl_PartOk_1.f k l0 0).bind fun t291 => (some (decide (t291 ≥ 0)))) = some r := h
 clear h
 replace H := Option.bind_eq_some_iff.mp H
 obtain ⟨t291, A30, H⟩ := H
 replace H : (some (decide (t291 ≥ 0))) = some r := H
 have A3 := Aside0.mk A30
 clear A30
 obtain rfl := Option.some.inj H
 go_enter Try.func108, Try.ntmps108
 go_wp2_with (first | ((with_reducible refine gate_callee (f := 158) rfl ?_); refine goesL_ (some 7) rfl rfl Try.func158 (by kernel_rfl) rfl #[.slice A0 l0.length c0, .func (.func 109) #[] #[]] rfl zT7 ?_; (with_reducible refine (slices_IndexFunc_at_impl_PartOk_1.calls k _ _ l0 0 t291 _ ?side1 ?side2 A3.out).mono ?_); (case side1 => exact zC7 HR0.out); (case side2 => exact HC0.out); rintro e w4 ⟨rfl, hb⟩; refine ⟨_, rfl, ?_⟩; have n0_ := Aside0.mk (below_step (zB7_1) hb); clear HB; have HB := n0_; clear n0_; (try clear hb); (try clear hb2); (try clear hk); (try clear hi)))
 go_ret
 exact ⟨zE7, zB7_1⟩

end Go.Proofs.Ytnekcbajadnldaa.PFnMoved
