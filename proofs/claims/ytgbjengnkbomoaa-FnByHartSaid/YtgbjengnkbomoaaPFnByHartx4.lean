-- made by wip/tools/myprint.py out of the seat's translation
import Derived.Test.YtgbjengnkbomoaaPFnByHartx0
import Derived.Test.YtgbjengnkbomoaaPFnByHartx2
import Derived.Test.YtgbjengnkbomoaaPFnByHartx3
namespace Go.Proofs.Ytgbjengnkbomoaa.PFnByHart
open Go.RowKit Go.Proofs.YtgbjengnkbomoaaW.PrintWords Go.Proofs.YtgbjengnkbomoaaW.PrintLast Go.Proofs.YtgbjengnkbomoaaW.PrintMore
attribute [local go_sem] max2_int min2_int max_two min_two max_three min_three max_four min_four   -- for this text's walks alone
set_option linter.unusedVariables false
set_option linter.unusedSimpArgs false
theorem zc4_3 {w : World} {g : Nat} {a0 a1 a2 : Value} {t : TypeId} (h : w.heap[g]? = some (.cells #[a0, a1, a2] t (0, 0))) : w.cell? ⟨g, 0, none⟩ = some a0 ∧ w.cell? ⟨g, 1, none⟩ = some a1 ∧ w.cell? ⟨g, 2, none⟩ = some a2 ∧ w.frozen? ⟨g, 0, none⟩ = false ∧ w.frozen? ⟨g, 1, none⟩ = false ∧ w.frozen? ⟨g, 2, none⟩ = false := ⟨(blk_cell h 0).trans rfl, (blk_cell h 1).trans rfl, (blk_cell h 2).trans rfl, blk_frozen h 0, blk_frozen h 1, blk_frozen h 2⟩
theorem zc4_5 {w : World} {g : Nat} {a0 a1 a2 a3 a4 : Value} {t : TypeId} (h : w.heap[g]? = some (.cells #[a0, a1, a2, a3, a4] t (0, 0))) : w.cell? ⟨g, 0, none⟩ = some a0 ∧ w.cell? ⟨g, 1, none⟩ = some a1 ∧ w.cell? ⟨g, 2, none⟩ = some a2 ∧ w.cell? ⟨g, 3, none⟩ = some a3 ∧ w.cell? ⟨g, 4, none⟩ = some a4 ∧ w.frozen? ⟨g, 0, none⟩ = false ∧ w.frozen? ⟨g, 1, none⟩ = false ∧ w.frozen? ⟨g, 2, none⟩ = false ∧ w.frozen? ⟨g, 3, none⟩ = false ∧ w.frozen? ⟨g, 4, none⟩ = false := ⟨(blk_cell h 0).trans rfl, (blk_cell h 1).trans rfl, (blk_cell h 2).trans rfl, (blk_cell h 3).trans rfl, (blk_cell h 4).trans rfl, blk_frozen h 0, blk_frozen h 1, blk_frozen h 2, blk_frozen h 3, blk_frozen h 4⟩
abbrev zq4_0 : Array Bool := #[false, false, false, false, false, false, false, false, false, false]
abbrev zq4_1 : Array Bool := #[true, false, false, false, false, false, false, false, false, false]
abbrev zq4_2 : Array Bool := #[true, true, false, false, false, false, false, false, false, false]
abbrev zq4_3 : Array Bool := #[true, true, false, false, true, false, false, false, false, false]
abbrev zq4_4 : Array Bool := #[true, true, true, false, true, false, false, false, false, false]
abbrev zq4_5 : Array Bool := #[true, true, true, true, true, false, false, false, false, false]
abbrev zq4_6 : Array Bool := #[true, true, true, true, true, true, false, false, false, false]
abbrev zq4_7 : Array Bool := #[true, true, true, true, true, true, true, true, true, false]
abbrev zq4_8 : Array Bool := #[true, true, true, true, true, true, true, false, false, false]
abbrev zq4_9 : Array Bool := #[true, true, true, true, true, true, false, false, true, false]
abbrev zq4_10 : Array Bool := #[true, true, true, true, true, true, true, true, false, false]
abbrev zq4_11 : Array Bool := #[true, true, true, true, true, true, true, false, true, false]
abbrev zq4_12 : Array Bool := #[true, true, true, true, true, true, true, true, true, true]
abbrev zq4_13 : Array Bool := #[false, false, false, false, false, false, false, false, false, false, false, false, false]
abbrev zq4_14 : Array Bool := #[false, false, true, false, false, false, false, false, false, false, false, false, false]
abbrev zq4_15 : Array Bool := #[false, false, true, true, false, false, false, false, false, false, false, false, false]
abbrev zq4_16 : Array Bool := #[true, false, true, true, false, false, false, false, false, false, false, false, false]
abbrev zq4_17 : Array Bool := #[true, true, true, true, false, false, false, false, false, false, false, false, false]
abbrev zq4_18 : Array Bool := #[true, true, true, true, true, false, false, false, false, false, false, false, false]
abbrev zq4_19 : Array Bool := #[true, true, true, true, true, true, false, false, false, false, false, false, false]
abbrev zq4_20 : Array Bool := #[true, true, true, true, true, true, true, false, false, false, false, false, false]
abbrev zq4_21 : Array Bool := #[true, true, true, true, true, true, true, true, false, false, false, false, false]
abbrev zq4_22 : Array Bool := #[true, true, true, true, true, true, true, true, true, false, false, false, false]
abbrev zq4_23 : Array Bool := #[true, true, true, true, true, true, true, true, true, true, false, false, false]
abbrev zq4_24 : Array Bool := #[true, true, true, true, true, true, true, true, true, true, true, false, false]
abbrev zq4_25 : Array Bool := #[true, true, true, true, true, true, true, true, true, true, true, true, false]
abbrev zq4_26 : Array Bool := #[true, true, true, true, true, true, true, true, true, true, true, true, true]
theorem zK4 {p q : Prop} (x : q) (h : q → p := by intro h; (with_reducible repeat (first | refine blk_drewN ?_ _ | refine blk_drew ?_ | refine blk_alloc ?_ _)); exact h) : p := h x
theorem zA4 {p : Prop} [Decidable p] (h : decide p = true := by first | (with_reducible assumption) | assumption) : p := of_decide_eq_true h
theorem zT4 {p : Prop} (h : p := by (try simp only [List.map_toArray, List.map_cons, List.map_nil]); first | done | rfl | (simp only [List.length_drop, List.length_take]; rfl)) : p := h
theorem zC4 {p q : Prop} (x : q) (h : q → p := by intro h; repeat (first | exact h | (with_reducible refine Kd.C_alloc ?_ _) | (with_reducible refine Kd.C_drewN ?_ _) | (with_reducible refine Kd.C_drew ?_))) : p := h x
theorem zb4 {W w w1 : World} {g : Nat} {o : Obj} (x : W.heap[g]? = some o) (hb : Below w.heap.size w w1) (h : W.heap[g]? = some o → w.heap[g]? = some o := by intro h; (with_reducible repeat (first | refine blk_drewN ?_ _ | refine blk_drew ?_ | refine blk_alloc ?_ _)); exact h) : w1.heap[g]? = some o := blk_below (h x) hb
theorem zn4 {W w : World} {g g' : Nat} {o : Obj} (x : W.heap[g]? = some o) (hg : g' = w.heap.size) (h : W.heap[g]? = some o → w.heap[g]? = some o := by intro h; (with_reducible repeat (first | refine blk_drewN ?_ _ | refine blk_drew ?_ | refine blk_alloc ?_ _)); exact h) : g ≠ g' := by rw [hg]; exact Nat.ne_of_lt (blk_lt (h x))
theorem zm4 {W w : World} {g g' : Nat} {o : Obj} (x : W.heap[g]? = some o) (hg : g' = w.heap.size) (h : W.heap[g]? = some o → w.heap[g]? = some o := by intro h; (with_reducible repeat (first | refine blk_drewN ?_ _ | refine blk_drew ?_ | refine blk_alloc ?_ _)); exact h) : g' ≠ g := by rw [hg]; exact Nat.ne_of_gt (blk_lt (h x))
theorem zP4 {p q : Prop} (x : q) (h : q → p := by intro h; (with_reducible repeat (first | refine blk_drewN ?_ _ | refine blk_drew ?_ | refine blk_alloc ?_ _)); exact h) : p := h x
theorem zV4 {a b : Act} (h : a = b := by simp only [Act.put, List.setIfInBounds_toArray, List.set_cons_zero, List.set_cons_succ, i64_w, i32_w]; rfl) : a = b := h
theorem zE4 {p : Prop} (h : p := by first | rfl | (simp [errW_none, errW_some] <;> rfl) | (simp [*, errW_none, errW_some] <;> rfl)) : p := h
theorem zB4_0 {p : Prop} (h : p := by repeat (first | (with_reducible first | exact HB.out | apply below_alloc | apply pw_below_drewN | apply below_drew1) | exact HB.out)) : p := h
theorem zB4_1 {p : Prop} (h : p := by repeat (first | (with_reducible first | exact HB.out | apply below_alloc | apply pw_below_drewN | apply below_drew1 | refine below_set ?_ GE167.out) | exact HB.out)) : p := h
theorem zB4_2 {p : Prop} (h : p := by repeat (first | (with_reducible first | exact HB.out | apply below_alloc | apply pw_below_drewN | apply below_drew1 | refine below_set ?_ GE167.out | refine below_set ?_ GE168.out) | exact HB.out)) : p := h
theorem zB4_3 {p : Prop} (h : p := by repeat (first | (with_reducible first | exact HB.out | apply below_alloc | apply pw_below_drewN | apply below_drew1 | refine below_set ?_ GE167.out | refine below_set ?_ GE168.out | refine below_set ?_ GE178.out) | exact HB.out)) : p := h
theorem zB4_4 {p : Prop} (h : p := by repeat (first | (with_reducible first | exact HB.out | apply below_alloc | apply pw_below_drewN | apply below_drew1 | refine below_set ?_ GE167.out | refine below_set ?_ GE168.out | refine below_set ?_ GE178.out | refine below_set ?_ GE180.out) | exact HB.out)) : p := h

/-! ### spec_EventOf: function 56 -/
def spec_EventOf.j0 : Nat → List Int → Int → Bool → List Int → Int → Int → Option (Int × Int × Int × Int × Int × Bool)
 | 0, _, _, _, _, _, _ => none
 | k + 1, x0, x2, x23, x168000, x168001, x168002 => if x23 = true then (some (0, 0, 0, 0, 0, false)) else (if 0 ≤ x168001 then (if x168001 < (x0.length : Int) then ((spec_Decode.f (rd x0 x168001)).bind fun bt172 => ((spec_Target.f bt172.1 bt172.2.1 bt172.2.2.1 bt172.2.2.2.1 bt172.2.2.2.2.1 x168000).bind fun t179 => (if t179 < 0 then (some (x2, x168001, t179, (-1), (-1), true)) else (if 0 ≤ t179 then (if t179 < (x0.length : Int) then ((spec_Work.f k x168000 x168001 x168002 bt172.1 bt172.2.1 bt172.2.2.1 bt172.2.2.2.1 bt172.2.2.2.2.1 (rd x0 t179)).bind fun bt182 => (if bt172.1 = 5 then (some (x2, x168001, t179, (-1), bt182.2.2.2, true)) else (some (x2, x168001, t179, rd x0 t179, bt182.2.2.2, true)))) else (none)) else (none))))) else (none)) else (none))
def spec_EventOf.f (k : Nat) (l0 : List Int) (l1_0 : List Int) (a1_1 : Int) (a1_2 : Int) (a2 : Int) : Option (Int × Int × Int × Int × Int × Bool) := (spec_l1Words.f k l0 24).bind fun t169 => (if t169 = true then ((spec_HartOk.f k l1_0 a1_1 a1_2).bind fun t170 => (if t170 = true then (spec_EventOf.j0 k l0 a2 (a1_2 != 0) l1_0 a1_1 a1_2) else (spec_EventOf.j0 k l0 a2 true l1_0 a1_1 a1_2))) else (spec_EventOf.j0 k l0 a2 true l1_0 a1_1 a1_2))
theorem spec_EventOf.mono_l : ∀ k, (∀ y0 y1 y2 y3 y4 y5, LeO (spec_EventOf.j0 k y0 y1 y2 y3 y4 y5) (spec_EventOf.j0 (k + 1) y0 y1 y2 y3 y4 y5))
 | 0 => fun _ _ _ _ _ _ r h => by simp [spec_EventOf.j0] at h
 | k + 1 => by
  have ih0 := spec_EventOf.mono_l k
  ·intro y0 y1 y2 y3 y4 y5
   unfold spec_EventOf.j0
   repeat' first
   | (with_reducible exact ih0 _ _ _ _ _ _)
   | (with_reducible exact spec_HartOk.mono _ _ _ _)
   | (with_reducible exact spec_Work.mono _ _ _ _ _ _ _ _ _ _)
   | (with_reducible exact spec_l1Words.mono _ _ _)
   | (with_reducible exact LeO.refl _)
   | (with_reducible exact LeO.none _)
   | (with_reducible refine LeO.ite ?_ ?_)
   | (with_reducible refine LeO.bind ?_ (fun _ => ?_))
   | exact ih0 _ _ _ _ _ _
   | exact spec_HartOk.mono _ _ _ _
   | exact spec_Work.mono _ _ _ _ _ _ _ _ _ _
   | exact spec_l1Words.mono _ _ _
   | exact LeO.none _
   | refine LeO.ite ?_ ?_
   | refine LeO.bind ?_ (fun _ => ?_)
theorem spec_EventOf.mono : ∀ a0 a1 a2 a3 a4 k, LeO (spec_EventOf.f k a0 a1 a2 a3 a4) (spec_EventOf.f (k + 1) a0 a1 a2 a3 a4) := by
 intro a0 a1 a2 a3 a4 k
 have ih0 := spec_EventOf.mono_l k
 unfold spec_EventOf.f
 repeat' first
   | (with_reducible exact ih0 _ _ _ _ _ _)
   | (with_reducible exact spec_HartOk.mono _ _ _ _)
   | (with_reducible exact spec_Work.mono _ _ _ _ _ _ _ _ _ _)
   | (with_reducible exact spec_l1Words.mono _ _ _)
   | (with_reducible exact LeO.refl _)
   | (with_reducible exact LeO.none _)
   | (with_reducible refine LeO.ite ?_ ?_)
   | (with_reducible refine LeO.bind ?_ (fun _ => ?_))
   | exact ih0 _ _ _ _ _ _
   | exact spec_HartOk.mono _ _ _ _
   | exact spec_Work.mono _ _ _ _ _ _ _ _ _ _
   | exact spec_l1Words.mono _ _ _
   | exact LeO.none _
   | refine LeO.ite ?_ ?_
   | refine LeO.bind ?_ (fun _ => ?_)
def spec_EventOf.T4 : Bool × List (List Nat × List Nat) := (true, [([], []), ([], []), ([1], [1]), ([], []), ([], []), ([4], [4]), ([3, 5], [3, 5]), ([0, 2, 6], [0, 2, 6]), ([], []), ([8, 7, 6, 0, 1, 2, 3, 4, 5, 6, 7, 8], [7, 8])])
def spec_EventOf.B4 : List Nat := [0, 0, 2, 0, 0, 16, 56, 127, 0, 511]
theorem spec_EventOf.tab4 : rtab .any (opsOf Try.f56 4) = spec_EventOf.T4 := by kernel_rfl
theorem spec_EventOf.bits4 : waitsOk spec_EventOf.T4.2 spec_EventOf.B4 = true := by kernel_rfl
def spec_EventOf.T7 : Bool × List (List Nat × List Nat) := (true, [([], []), ([], []), ([], []), ([], []), ([3], [3]), ([2, 4], [2, 4]), ([5], [5]), ([0, 1, 6], [0, 1, 6]), ([7], [7]), ([8], [8]), ([8], [8]), ([0, 1, 2, 3, 4, 5, 6, 7, 8, 9, 10], []), ([11, 10, 7, 0, 1, 2, 3, 4, 5, 6, 7, 8, 9, 10], [10, 11])])
def spec_EventOf.B7 : List Nat := [0, 0, 0, 0, 8, 28, 60, 127, 255, 511, 511, 2047, 4095]
theorem spec_EventOf.tab7 : rtab .any (opsOf Try.f56 7) = spec_EventOf.T7 := by kernel_rfl
theorem spec_EventOf.bits7 : waitsOk spec_EventOf.T7.2 spec_EventOf.B7 = true := by kernel_rfl
set_option maxHeartbeats 8000000 in
set_option maxRecDepth 100000 in
theorem spec_EventOf.calls (k : Nat) (A0 : Option Addr) (c0 : Nat) (l0 : List Int) (A1_0 : Option Addr) (c1_0 : Nat) (l1_0 : List Int) (a1_1 : Int) (a1_2 : Int) (a2 : Int) (r1 : Int) (r2 : Int) (r3 : Int) (r4 : Int) (r5 : Int) (r6 : Bool) (w : World) (hr0 : Kd.C (Kd.int .i64) w A0 l0.length l0) (hc0 : l0.length ≤ c0) (hr1_0 : Kd.C (Kd.int .i64) w A1_0 l1_0.length l1_0) (hc1_0 : l1_0.length ≤ c1_0) (h : spec_EventOf.f k l0 l1_0 a1_1 a1_2 a2 = some (r1, r2, r3, r4, r5, r6)) :
  Calls Try.prog 56 #[.slice A0 l0.length c0, .agg #[.slice A1_0 l1_0.length c1_0, .int .i64 a1_1, .int .i64 a1_2], .int .i64 a2] w fun e w' => e = .returned (.tuple #[.agg #[.int .i64 r1, .int .i64 r2, .int .i64 r3, .int .i64 r4, .int .i64 r5], .bool r6]) ∧ Below w.heap.size w w' := by
 have hu49 := Try.underlying49
 have hu31 := Try.underlying31
 have hu71 := Try.underlying71
 have HR0 := Aside0.mk hr0
 have HC0 := Aside0.mk hc0
 clear hr0 hc0
 have HR1_0 := Aside0.mk hr1_0
 have HC1_0 := Aside0.mk hc1_0
 clear hr1_0 hc1_0
 have HB := Aside0.mk (Below.refl w.heap.size w)
 have H : ((spec_l1Words.f k l0 24).bind fun t169 => (if t169 = true then ((spec_HartOk.f k l1_0 a1_1 a1_2).bind fun t170 => (if t170 = true then (spec_EventOf.j0 k l0 a2 (a1_2 != 0) l1_0 a1_1 a1_2) else (spec_EventOf.j0 k l0 a2 true l1_0 a1_1 a1_2))) else (spec_EventOf.j0 k l0 a2 true l1_0 a1_1 a1_2))) = some (r1, r2, r3, r4, r5, r6) := h
 clear h
 have HC4 := Aside0.mk H
 clear H
 go_enter Try.func56, Try.ntmps56
 go_upto_region 1 with (first | ((with_reducible refine gate_dst (N := 4) rfl ?_); refine box_event ?hg (N := 4) ?hd (cs := #[.slice A1_0 l1_0.length c1_0, .int .i64 a1_1, .int .i64 a1_2]) (t := 49) ?hr ?_; (case hd => rfl); (case hg => rfl); (case hr => first | (go_simp; done) | (go_simp; rfl)); intro gb167 hg w5 hbox hb; have n0_ := Aside0.mk (below_step (zB4_0) hb); have n1_ := Aside0.mk (hbox); have n2_ := Aside0.mk ((by rw [hg]; exact (below_size (zB4_0)) : w.heap.size ≤ gb167)); have n3_ := Aside0.mk ((by rw [hg]; exact (below_size (zB4_0)) : w.heap.size ≤ gb167)); clear HB; have HB := n0_; have BK167 := n1_; have GW167 := n2_; have GE167 := n3_; clear n0_ n1_ n2_ n3_; clear hb hbox hg) | ((with_reducible refine gate_dst (N := 6) rfl ?_); refine box_event ?hg (N := 6) ?hd (cs := #[.int .i64 0, .int .i64 0, .int .i64 0, .int .i64 0, .int .i64 0]) (t := 31) ?hr ?_; (case hd => rfl); (case hg => rfl); (case hr => first | (go_simp; done) | (go_simp; rfl)); intro gb168 hg w6 hbox hb; have n0_ := Aside0.mk (zb4 BK167.out hb); have n1_ := Aside0.mk (below_step (zB4_1) hb); have n2_ := Aside0.mk (hbox); have n3_ := Aside0.mk ((by rw [hg]; exact (below_size (zB4_1)) : w.heap.size ≤ gb168)); have n4_ := Aside0.mk ((by rw [hg]; exact (below_size (zB4_1)) : w.heap.size ≤ gb168)); have n5_ := Aside0.mk ((zn4 BK167.out hg : gb167 ≠ gb168)); have n6_ := Aside0.mk ((zm4 BK167.out hg : gb168 ≠ gb167)); clear BK167; clear HB; have BK167 := n0_; have HB := n1_; have BK168 := n2_; have GW168 := n3_; have GE168 := n4_; have NB167_168 := n5_; have NB168_167 := n6_; clear n0_ n1_ n2_ n3_ n4_ n5_ n6_; clear hb hbox hg))
 (try simp only [Act.put, List.setIfInBounds_toArray, List.set_cons_zero, List.set_cons_succ])
 go_cut [23] (fun v23 wc => ∃ (kq : Nat) (x23_3 : Bool), v23 = .bool x23_3 ∧ Aside0 (spec_EventOf.j0 kq l0 a2 x23_3 l1_0 a1_1 a1_2 = some (r1, r2, r3, r4, r5, r6)) ∧ Aside0 (kq ≤ k) ∧ Aside0 (wc.heap[gb167]? = some (.cells #[(.slice A1_0 l1_0.length c1_0), .int .i64 a1_1, .int .i64 a1_2] 49 (0, 0))) ∧ Aside0 (wc.heap[gb168]? = some (.cells #[.int .i64 0, .int .i64 0, .int .i64 0, .int .i64 0, .int .i64 0] 31 (0, 0))) ∧ Aside0 (Below w.heap.size w wc))
 case first =>
  have H := HC4.out
  clear HC4
  replace H := Option.bind_eq_some_iff.mp H
  obtain ⟨t169, A70, H⟩ := H
  replace H : (if t169 = true then ((spec_HartOk.f k l1_0 a1_1 a1_2).bind fun t170 => (if t170 = true then (spec_EventOf.j0 k l0 a2 (a1_2 != 0) l1_0 a1_1 a1_2) else (spec_EventOf.j0 k l0 a2 true l1_0 a1_1 a1_2))) else (spec_EventOf.j0 k l0 a2 true l1_0 a1_1 a1_2)) = some (r1, r2, r3, r4, r5, r6) := H
  have A7 := Aside0.mk A70
  clear A70
  by_cases c8 : t169 = true
  rotate_left
  ·replace c8 := Bool.eq_false_iff.mpr c8
   subst c8
   have H1 : (spec_EventOf.j0 k l0 a2 true l1_0 a1_1 a1_2) = some (r1, r2, r3, r4, r5, r6) := by rw [if_neg (show ¬ (false = true) by decide)] at H; exact H
   clear H
   have H := H1
   clear H1
   have H' := Aside0.mk H
   clear H
   go_wp2_with (first | ((with_reducible refine gate_callee (f := 75) rfl ?_); refine goesL_ (some 12) rfl rfl Try.func75 (by kernel_rfl) rfl #[.slice A0 l0.length c0, .int .i64 24] rfl zT4 ?_; (with_reducible refine (spec_l1Words.calls k _ _ l0 24 false _ ?side1 ?side2 A7.out).mono ?_); (case side1 => exact zC4 (Kd.C_below HR0.out HB.out)); (case side2 => exact HC0.out); rintro e w' ⟨rfl, ⟨nd, rfl⟩⟩; refine ⟨_, rfl, ?_⟩))
   go_meet
   case rel => exact ⟨_, (true), (by first | rfl | (simp; done) | (simp [*]; done)), H', ⟨by first | omega | exact Nat.le_refl _⟩, ⟨zK4 BK167.out⟩, ⟨zK4 BK168.out⟩, ⟨zB4_2⟩⟩
  subst c8
  have H1 : ((spec_HartOk.f k l1_0 a1_1 a1_2).bind fun t170 => (if t170 = true then (spec_EventOf.j0 k l0 a2 (a1_2 != 0) l1_0 a1_1 a1_2) else (spec_EventOf.j0 k l0 a2 true l1_0 a1_1 a1_2))) = some (r1, r2, r3, r4, r5, r6) := by rw [if_pos rfl] at H; exact H
  clear H
  have H := H1
  clear H1
  replace H := Option.bind_eq_some_iff.mp H
  obtain ⟨t170, A90, H⟩ := H
  replace H : (if t170 = true then (spec_EventOf.j0 k l0 a2 (a1_2 != 0) l1_0 a1_1 a1_2) else (spec_EventOf.j0 k l0 a2 true l1_0 a1_1 a1_2)) = some (r1, r2, r3, r4, r5, r6) := H
  have A9 := Aside0.mk A90
  clear A90
  by_cases c10 : t170 = true
  rotate_left
  ·replace c10 := Bool.eq_false_iff.mpr c10
   subst c10
   have H1 : (spec_EventOf.j0 k l0 a2 true l1_0 a1_1 a1_2) = some (r1, r2, r3, r4, r5, r6) := by rw [if_neg (show ¬ (false = true) by decide)] at H; exact H
   clear H
   have H := H1
   clear H1
   have H' := Aside0.mk H
   clear H
   go_wp2_with (first | ((with_reducible refine gate_callee (f := 75) rfl ?_); refine goesL_ (some 12) rfl rfl Try.func75 (by kernel_rfl) rfl #[.slice A0 l0.length c0, .int .i64 24] rfl zT4 ?_; (with_reducible refine (spec_l1Words.calls k _ _ l0 24 true _ ?side1 ?side2 A7.out).mono ?_); (case side1 => exact zC4 (Kd.C_below HR0.out HB.out)); (case side2 => exact HC0.out); rintro e w' ⟨rfl, ⟨nd, rfl⟩⟩; refine ⟨_, rfl, ?_⟩; have hnb15 := NB167_168.out; have hnc15 := NB168_167.out; obtain ⟨hcz16_0, hcz16_1, hcz16_2, hfz16_0, hfz16_1, hfz16_2⟩ := zc4_3 (w := w6) BK167.out) | (go_at_call 76; (with_reducible refine (spec_HartOk.calls k _ _ l1_0 a1_1 a1_2 false _ ?side1 ?side2 A9.out).mono ?_); (case side1 => repeat (first | exact (Kd.C_below HR1_0.out (zB4_2)) | (with_reducible refine Kd.C_alloc ?_ _) | (with_reducible refine Kd.C_drewN ?_ _) | (with_reducible refine Kd.C_drew ?_))); (case side2 => exact HC1_0.out); rintro e w17 ⟨rfl, hb⟩; have n0_ := Aside0.mk (zb4 BK167.out hb); have n1_ := Aside0.mk (zb4 BK168.out hb); have n2_ := Aside0.mk (below_step (zB4_2) hb); clear BK167; clear BK168; clear HB; have BK167 := n0_; have BK168 := n1_; have HB := n2_; clear n0_ n1_ n2_; (try clear hb); (try clear hb2); (try clear hk); (try clear hi)))
   go_meet
   case rel => exact ⟨_, (true), (by first | rfl | (simp; done) | (simp [*]; done)), H', ⟨by first | omega | exact Nat.le_refl _⟩, ⟨zK4 BK167.out⟩, ⟨zK4 BK168.out⟩, ⟨zB4_2⟩⟩
  subst c10
  have H1 : (spec_EventOf.j0 k l0 a2 (a1_2 != 0) l1_0 a1_1 a1_2) = some (r1, r2, r3, r4, r5, r6) := by rw [if_pos rfl] at H; exact H
  clear H
  have H := H1
  clear H1
  have H' := Aside0.mk H
  clear H
  go_wp2_with (first | ((with_reducible refine gate_callee (f := 75) rfl ?_); refine goesL_ (some 12) rfl rfl Try.func75 (by kernel_rfl) rfl #[.slice A0 l0.length c0, .int .i64 24] rfl zT4 ?_; (with_reducible refine (spec_l1Words.calls k _ _ l0 24 true _ ?side1 ?side2 A7.out).mono ?_); (case side1 => exact zC4 (Kd.C_below HR0.out HB.out)); (case side2 => exact HC0.out); rintro e w' ⟨rfl, ⟨nd, rfl⟩⟩; refine ⟨_, rfl, ?_⟩; have hnb11 := NB167_168.out; have hnc11 := NB168_167.out; obtain ⟨hcz12_0, hcz12_1, hcz12_2, hfz12_0, hfz12_1, hfz12_2⟩ := zc4_3 (w := w6) BK167.out) | (go_at_call 76; (with_reducible refine (spec_HartOk.calls k _ _ l1_0 a1_1 a1_2 true _ ?side1 ?side2 A9.out).mono ?_); (case side1 => repeat (first | exact (Kd.C_below HR1_0.out (zB4_2)) | (with_reducible refine Kd.C_alloc ?_ _) | (with_reducible refine Kd.C_drewN ?_ _) | (with_reducible refine Kd.C_drew ?_))); (case side2 => exact HC1_0.out); rintro e w13 ⟨rfl, hb⟩; have n0_ := Aside0.mk (zb4 BK167.out hb); have n1_ := Aside0.mk (zb4 BK168.out hb); have n2_ := Aside0.mk (below_step (zB4_2) hb); clear BK167; clear BK168; clear HB; have BK167 := n0_; have BK168 := n1_; have HB := n2_; clear n0_ n1_ n2_; (try clear hb); (try clear hb2); (try clear hk); (try clear hi); obtain ⟨hcz14_0, hcz14_1, hcz14_2, hfz14_0, hfz14_1, hfz14_2⟩ := zc4_3 (w := w13) BK167.out))
  go_meet
  case rel => exact ⟨_, ((a1_2 != 0)), (by first | rfl | (simp; done) | (simp [*]; done)), H', ⟨by first | omega | exact Nat.le_refl _⟩, ⟨zK4 BK167.out⟩, ⟨zK4 BK168.out⟩, ⟨zB4_2⟩⟩
 case rest =>
  clear HC4
  try clear c1
  try clear p2
  try clear c5
  try clear c7
  try clear c8
  try clear c10
  try clear c11
  try clear c15
  try clear hcz12_0
  try clear hcz12_1
  try clear hcz12_2
  try clear hcz14_0
  try clear hcz14_1
  try clear hcz14_2
  try clear hcz16_0
  try clear hcz16_1
  try clear hcz16_2
  try clear hfz12_0
  try clear hfz12_1
  try clear hfz12_2
  try clear hfz14_0
  try clear hfz14_1
  try clear hfz14_2
  try clear hfz16_0
  try clear hfz16_1
  try clear hfz16_2
  obtain ⟨kq, x23_3, rfl, HA, HJ3, BK167, BK168, HB⟩ := hcut
  cases kq with
  | zero => exact absurd HA.out (by simp [spec_EventOf.j0])
  | succ kj3 =>
   have H := HA.out
   clear HA
   simp only [spec_EventOf.j0] at H
   by_cases c18 : x23_3 = true
   ·subst c18
    have H1 : (some (0, 0, 0, 0, 0, false)) = some (r1, r2, r3, r4, r5, r6) := by rw [if_pos rfl] at H; exact H
    clear H
    have H := H1
    clear H1
    simp only [Option.some.injEq, Prod.mk.injEq] at H
    obtain ⟨rfl, rfl, rfl, rfl, rfl, rfl⟩ := H
    have hnb19 := NB168_167.out
    have hnc19 := NB167_168.out
    obtain ⟨hcz20_0, hcz20_1, hcz20_2, hcz20_3, hcz20_4, hfz20_0, hfz20_1, hfz20_2, hfz20_3, hfz20_4⟩ := zc4_5 (w := wc) BK168.out
    go_wp2
    refine bodyPost_ret (results_ct rfl _ _ gb168 31 #[.int .i64 0, .int .i64 0, .int .i64 0, .int .i64 0, .int .i64 0] (0, 0) _ rfl (by refine zP4 ?_; refine blk_put (cs := #[.int .i64 0, .int .i64 0, .int .i64 0, .int .i64 0, .int .i64 0]) ?_ 4 _ rfl; refine zP4 ?_; refine blk_put (cs := #[.int .i64 0, .int .i64 0, .int .i64 0, .int .i64 0, .int .i64 0]) ?_ 3 _ rfl; refine zP4 ?_; refine blk_put (cs := #[.int .i64 0, .int .i64 0, .int .i64 0, .int .i64 0, .int .i64 0]) ?_ 2 _ rfl; refine zP4 ?_; refine blk_put (cs := #[.int .i64 0, .int .i64 0, .int .i64 0, .int .i64 0, .int .i64 0]) ?_ 1 _ rfl; refine zP4 ?_; refine blk_put (cs := #[.int .i64 0, .int .i64 0, .int .i64 0, .int .i64 0, .int .i64 0]) ?_ 0 _ rfl; refine zP4 ?_; exact BK168.out) Try.underlying31 rfl (by kernel_rfl)) rfl ?_
    exact ⟨zE4, zB4_2⟩
   replace c18 := Bool.eq_false_iff.mpr c18
   subst c18
   have H1 : (if 0 ≤ a1_1 then (if a1_1 < (l0.length : Int) then ((spec_Decode.f (rd l0 a1_1)).bind fun bt172 => ((spec_Target.f bt172.1 bt172.2.1 bt172.2.2.1 bt172.2.2.2.1 bt172.2.2.2.2.1 l1_0).bind fun t179 => (if t179 < 0 then (some (a2, a1_1, t179, (-1), (-1), true)) else (if 0 ≤ t179 then (if t179 < (l0.length : Int) then ((spec_Work.f kj3 l1_0 a1_1 a1_2 bt172.1 bt172.2.1 bt172.2.2.1 bt172.2.2.2.1 bt172.2.2.2.2.1 (rd l0 t179)).bind fun bt182 => (if bt172.1 = 5 then (some (a2, a1_1, t179, (-1), bt182.2.2.2, true)) else (some (a2, a1_1, t179, rd l0 t179, bt182.2.2.2, true)))) else (none)) else (none))))) else (none)) else (none)) = some (r1, r2, r3, r4, r5, r6) := by rw [if_neg (show ¬ (false = true) by decide)] at H; exact H
   clear H
   have H := H1
   clear H1
   by_cases c21 : 0 ≤ a1_1
   rotate_left
   ·rw [if_neg c21] at H
    exact absurd H (by simp)
   rw [if_pos c21] at H
   have c21b0 : decide (0 ≤ a1_1) = true := decide_eq_true c21
   clear c21
   by_cases c22 : a1_1 < (l0.length : Int)
   rotate_left
   ·rw [if_neg c22] at H
    exact absurd H (by simp)
   rw [if_pos c22] at H
   have c22b0 : decide (a1_1 < (l0.length : Int)) = true := decide_eq_true c22
   clear c22
   replace H := Option.bind_eq_some_iff.mp H
   obtain ⟨⟨t172, t173, t174, t175, t176, t177⟩, A230, H⟩ := H
   replace H : ((spec_Target.f t172 t173 t174 t175 t176 l1_0).bind fun t179 => (if t179 < 0 then (some (a2, a1_1, t179, (-1), (-1), true)) else (if 0 ≤ t179 then (if t179 < (l0.length : Int) then ((spec_Work.f kj3 l1_0 a1_1 a1_2 t172 t173 t174 t175 t176 (rd l0 t179)).bind fun bt182 => (if t172 = 5 then (some (a2, a1_1, t179, (-1), bt182.2.2.2, true)) else (some (a2, a1_1, t179, rd l0 t179, bt182.2.2.2, true)))) else (none)) else (none)))) = some (r1, r2, r3, r4, r5, r6) := H
   have A23 := Aside0.mk A230
   clear A230
   replace H := Option.bind_eq_some_iff.mp H
   obtain ⟨t179, A240, H⟩ := H
   replace H : (if t179 < 0 then (some (a2, a1_1, t179, (-1), (-1), true)) else (if 0 ≤ t179 then (if t179 < (l0.length : Int) then ((spec_Work.f kj3 l1_0 a1_1 a1_2 t172 t173 t174 t175 t176 (rd l0 t179)).bind fun bt182 => (if t172 = 5 then (some (a2, a1_1, t179, (-1), bt182.2.2.2, true)) else (some (a2, a1_1, t179, rd l0 t179, bt182.2.2.2, true)))) else (none)) else (none))) = some (r1, r2, r3, r4, r5, r6) := H
   have A24 := Aside0.mk A240
   clear A240
   by_cases c25 : t179 < 0
   ·rw [if_pos c25] at H
    have c25b0 : decide (t179 < 0) = true := decide_eq_true c25
    clear c25
    simp only [Option.some.injEq, Prod.mk.injEq] at H
    obtain ⟨rfl, rfl, rfl, rfl, rfl, rfl⟩ := H
    have hnb26 := NB167_168.out
    have hnc26 := NB168_167.out
    obtain ⟨hcz27_0, hcz27_1, hcz27_2, hfz27_0, hfz27_1, hfz27_2⟩ := zc4_3 (w := wc) BK167.out
    have p171 : 0 ≤ (a1_1 : Int) := zA4
    have q171 : a1_1 < (l0.length : Int) := zA4
    obtain ⟨ad171, e171, hx171_0⟩ := Kd.at_int HR0.out a1_1 p171 q171
    cases e171
    replace hx171_0 := (HB.out.cell (World.block_lt_of_cell? w _ hx171_0)).trans hx171_0
    replace p171 := eq_true p171
    replace q171 := eq_true q171
    try go_wp2_with (first | ((with_reducible refine gate_callee (f := 77) rfl ?_); refine goesL_ (some 31) rfl rfl Try.func77 (by kernel_rfl) rfl #[.int .i64 (rd l0 a1_1)] rfl zT4 ?_; (with_reducible refine (spec_Decode.calls (rd l0 a1_1) t172 t173 t174 t175 t176 t177 _ A23.out).mono ?_); rintro e w28 ⟨rfl, hb⟩; refine ⟨_, rfl, ?_⟩; have n0_ := Aside0.mk (zb4 BK167.out hb); have n1_ := Aside0.mk (zb4 BK168.out hb); have n2_ := Aside0.mk (below_step (zB4_2) hb); clear BK167; clear BK168; clear HB; have BK167 := n0_; have BK168 := n1_; have HB := n2_; clear n0_ n1_ n2_; (try clear hb); (try clear hb2); (try clear hk); (try clear hi)) | ((with_reducible refine gate_dst (N := 8) rfl ?_); refine box_event ?hg (N := 8) ?hd (cs := #[.int .i64 0, .int .i64 0, .int .i64 0, .int .i64 0, .int .i64 0]) (t := 71) ?hr ?_; (case hd => rfl); (case hg => rfl); (case hr => first | (go_simp; done) | (go_simp; rfl)); intro gb178 hg w29 hbox hb; have n0_ := Aside0.mk (zb4 BK167.out hb); have n1_ := Aside0.mk (zb4 BK168.out hb); have n2_ := Aside0.mk (below_step (zB4_2) hb); have n3_ := Aside0.mk (hbox); have n4_ := Aside0.mk ((by rw [hg]; exact (below_size (zB4_2)) : w.heap.size ≤ gb178)); have n5_ := Aside0.mk ((by rw [hg]; exact (below_size (zB4_2)) : w.heap.size ≤ gb178)); have n6_ := Aside0.mk ((zn4 BK167.out hg : gb167 ≠ gb178)); have n7_ := Aside0.mk ((zm4 BK167.out hg : gb178 ≠ gb167)); have n8_ := Aside0.mk ((zn4 BK168.out hg : gb168 ≠ gb178)); have n9_ := Aside0.mk ((zm4 BK168.out hg : gb178 ≠ gb168)); clear BK167; clear BK168; clear HB; have BK167 := n0_; have BK168 := n1_; have HB := n2_; have BK178 := n3_; have GW178 := n4_; have GE178 := n5_; have NB167_178 := n6_; have NB178_167 := n7_; have NB168_178 := n8_; have NB178_168 := n9_; clear n0_ n1_ n2_ n3_ n4_ n5_ n6_ n7_ n8_ n9_; clear hb hbox hg; have hnb30 := NB178_167.out; have hnc30 := NB167_178.out; have hnb31 := NB178_168.out; have hnc31 := NB168_178.out; obtain ⟨hcz32_0, hcz32_1, hcz32_2, hcz32_3, hcz32_4, hfz32_0, hfz32_1, hfz32_2, hfz32_3, hfz32_4⟩ := zc4_5 (w := w29) BK178.out))
    have n0_ : Aside0 ((((((w29.setCell ⟨gb178, 0, none⟩ (.int .i64 t172)).setCell ⟨gb178, 1, none⟩ (.int .i64 t173)).setCell ⟨gb178, 2, none⟩ (.int .i64 t174)).setCell ⟨gb178, 3, none⟩ (.int .i64 t175)).setCell ⟨gb178, 4, none⟩ (.int .i64 t176)).heap[gb167]? = some (.cells #[.slice A1_0 l1_0.length c1_0, .int .i64 a1_1, .int .i64 a1_2] 49 (0, 0))) := ⟨by refine zP4 ?_; refine blk_far ?_ NB167_178.out _; refine zP4 ?_; refine blk_far ?_ NB167_178.out _; refine zP4 ?_; refine blk_far ?_ NB167_178.out _; refine zP4 ?_; refine blk_far ?_ NB167_178.out _; refine zP4 ?_; refine blk_far ?_ NB167_178.out _; refine zP4 ?_; exact BK167.out⟩
    have n1_ : Aside0 ((((((w29.setCell ⟨gb178, 0, none⟩ (.int .i64 t172)).setCell ⟨gb178, 1, none⟩ (.int .i64 t173)).setCell ⟨gb178, 2, none⟩ (.int .i64 t174)).setCell ⟨gb178, 3, none⟩ (.int .i64 t175)).setCell ⟨gb178, 4, none⟩ (.int .i64 t176)).heap[gb168]? = some (.cells #[.int .i64 0, .int .i64 0, .int .i64 0, .int .i64 0, .int .i64 0] 31 (0, 0))) := ⟨by refine zP4 ?_; refine blk_far ?_ NB168_178.out _; refine zP4 ?_; refine blk_far ?_ NB168_178.out _; refine zP4 ?_; refine blk_far ?_ NB168_178.out _; refine zP4 ?_; refine blk_far ?_ NB168_178.out _; refine zP4 ?_; refine blk_far ?_ NB168_178.out _; refine zP4 ?_; exact BK168.out⟩
    have n2_ : Aside0 ((((((w29.setCell ⟨gb178, 0, none⟩ (.int .i64 t172)).setCell ⟨gb178, 1, none⟩ (.int .i64 t173)).setCell ⟨gb178, 2, none⟩ (.int .i64 t174)).setCell ⟨gb178, 3, none⟩ (.int .i64 t175)).setCell ⟨gb178, 4, none⟩ (.int .i64 t176)).heap[gb178]? = some (.cells #[.int .i64 t172, .int .i64 t173, .int .i64 t174, .int .i64 t175, .int .i64 t176] 71 (0, 0))) := ⟨by refine zP4 ?_; refine blk_put (cs := #[.int .i64 t172, .int .i64 t173, .int .i64 t174, .int .i64 t175, .int .i64 0]) ?_ 4 _ rfl; refine zP4 ?_; refine blk_put (cs := #[.int .i64 t172, .int .i64 t173, .int .i64 t174, .int .i64 0, .int .i64 0]) ?_ 3 _ rfl; refine zP4 ?_; refine blk_put (cs := #[.int .i64 t172, .int .i64 t173, .int .i64 0, .int .i64 0, .int .i64 0]) ?_ 2 _ rfl; refine zP4 ?_; refine blk_put (cs := #[.int .i64 t172, .int .i64 0, .int .i64 0, .int .i64 0, .int .i64 0]) ?_ 1 _ rfl; refine zP4 ?_; refine blk_put (cs := #[.int .i64 0, .int .i64 0, .int .i64 0, .int .i64 0, .int .i64 0]) ?_ 0 _ rfl; refine zP4 ?_; exact BK178.out⟩
    have n3_ : Aside0 (Below w.heap.size w (((((w29.setCell ⟨gb178, 0, none⟩ (.int .i64 t172)).setCell ⟨gb178, 1, none⟩ (.int .i64 t173)).setCell ⟨gb178, 2, none⟩ (.int .i64 t174)).setCell ⟨gb178, 3, none⟩ (.int .i64 t175)).setCell ⟨gb178, 4, none⟩ (.int .i64 t176))) := ⟨zB4_3⟩
    (try clear BK167)
    (try clear BK168)
    (try clear BK178)
    (try clear HB)
    generalize (((((w29.setCell ⟨gb178, 0, none⟩ (.int .i64 t172)).setCell ⟨gb178, 1, none⟩ (.int .i64 t173)).setCell ⟨gb178, 2, none⟩ (.int .i64 t174)).setCell ⟨gb178, 3, none⟩ (.int .i64 t175)).setCell ⟨gb178, 4, none⟩ (.int .i64 t176)) = w33 at n0_ n1_ n2_ n3_ ⊢
    have BK167 := n0_
    have BK168 := n1_
    have BK178 := n2_
    have HB := n3_
    clear n0_ n1_ n2_ n3_
    have n0_ := Aside0.mk (blk_drew BK167.out)
    have n1_ := Aside0.mk (blk_drew BK168.out)
    have n2_ := Aside0.mk (blk_drew BK178.out)
    have n3_ := Aside0.mk (below_drew1 HB.out)
    clear BK167 BK168 BK178 HB
    have BK167 := n0_
    have BK168 := n1_
    have BK178 := n2_
    have HB := n3_
    clear n0_ n1_ n2_ n3_
    refine start_ (n := 10) (S := fun w' => w'.cell? ⟨gb167, 0, none⟩ = some (.slice A1_0 l1_0.length c1_0) ∧ w'.cell? ⟨gb167, 1, none⟩ = some (.int .i64 a1_1) ∧ w'.cell? ⟨gb167, 2, none⟩ = some (.int .i64 a1_2) ∧ w'.cell? ⟨gb178, 0, none⟩ = some (.int .i64 t172) ∧ w'.cell? ⟨gb178, 1, none⟩ = some (.int .i64 t173) ∧ w'.cell? ⟨gb178, 2, none⟩ = some (.int .i64 t174) ∧ w'.cell? ⟨gb178, 3, none⟩ = some (.int .i64 t175) ∧ w'.cell? ⟨gb178, 4, none⟩ = some (.int .i64 t176)) (ds := []) zq4_0 (by kernel_rfl) rfl rfl ⟨(blk_cell BK167.out 0).trans rfl, (blk_cell BK167.out 1).trans rfl, (blk_cell BK167.out 2).trans rfl, (blk_cell BK178.out 0).trans rfl, (blk_cell BK178.out 1).trans rfl, (blk_cell BK178.out 2).trans rfl, (blk_cell BK178.out 3).trans rfl, (blk_cell BK178.out 4).trans rfl⟩ (fun hHeld => ?_); refine with_tabW spec_EventOf.tab4 spec_EventOf.bits4 (fun HT_ HW_ => ?_)
    generalize w33.drew = w34 at BK167 BK168 BK178 HB hHeld ⊢
    refine pure_ (i := 0) (N := some 34) (v := ?_) (a' := ?_) zq4_1 rfl rfl (any_of HT_.out (by kernel_rfl)) (fun _ _ _ h => h) (Or.inl ⟨by rfl, ?_⟩) ?_ ?_
    rotate_left
    ·intro w'
     go_simp
     with_reducible rfl
    rotate_left
    ·exact zV4
    refine pure_ (i := 1) (N := some 35) (v := ?_) (a' := ?_) zq4_2 rfl rfl (any_of HT_.out (by kernel_rfl)) (fun _ _ _ h => h) (Or.inl ⟨by rfl, ?_⟩) ?_ ?_
    rotate_left
    ·intro w'
     go_simp
     with_reducible rfl
    rotate_left
    ·exact zV4
    refine pure_ (i := 4) (N := some 38) (v := ?_) (a' := ?_) zq4_3 rfl rfl (any_of HT_.out (by kernel_rfl)) (fun _ _ _ h => h) (Or.inl ⟨by rfl, ?_⟩) ?_ ?_
    rotate_left
    ·intro w'
     go_simp
     with_reducible rfl
    rotate_left
    ·exact zV4
    refine take_ (i := 2) (N := some 36) (v := ?_) (a' := ?_) zq4_4 rfl rfl (take_ofW HT_.out HW_.out (by kernel_rfl)) (fun _ _ _ h => h) (Or.inl ⟨by rfl, ?_⟩) hHeld ?_ ?_
    rotate_left
    ·rintro w' ⟨s0, s1, s2, s3, s4, s5, s6, s7⟩
     go_simp
     with_reducible rfl
    rotate_left
    ·exact zV4
    refine take_ (i := 3) (N := some 37) (v := ?_) (a' := ?_) zq4_5 rfl rfl (take_ofW HT_.out HW_.out (by kernel_rfl)) (fun _ _ _ h => h) (Or.inl ⟨by rfl, ?_⟩) hHeld ?_ ?_
    rotate_left
    ·rintro w' ⟨s0, s1, s2, s3, s4, s5, s6, s7⟩
     go_simp
     with_reducible rfl
    rotate_left
    ·exact zV4
    refine take_ (i := 5) (N := some 39) (v := ?_) (a' := ?_) zq4_6 rfl rfl (take_ofW HT_.out HW_.out (by kernel_rfl)) (fun _ _ _ h => h) (Or.inl ⟨by rfl, ?_⟩) hHeld ?_ ?_
    rotate_left
    ·rintro w' ⟨s0, s1, s2, s3, s4, s5, s6, s7⟩
     go_simp
     with_reducible rfl
    rotate_left
    ·exact zV4
    refine join_ (σ := Nat) 1 zq4_7 (fun s_ => [(40, .int .i64 t179), (10, .pointer (some ⟨s_, 0, none⟩)), (41, .agg #[.int .i64 a2, .int .i64 a1_1, .int .i64 t179, .int .i64 (-1), .int .i64 (-1)])]) (fun s_ w' => (w'.cell? ⟨gb167, 0, none⟩ = some (.slice A1_0 l1_0.length c1_0) ∧ w'.cell? ⟨gb167, 1, none⟩ = some (.int .i64 a1_1) ∧ w'.cell? ⟨gb167, 2, none⟩ = some (.int .i64 a1_2) ∧ w'.cell? ⟨gb178, 0, none⟩ = some (.int .i64 t172) ∧ w'.cell? ⟨gb178, 1, none⟩ = some (.int .i64 t173) ∧ w'.cell? ⟨gb178, 2, none⟩ = some (.int .i64 t174) ∧ w'.cell? ⟨gb178, 3, none⟩ = some (.int .i64 t175) ∧ w'.cell? ⟨gb178, 4, none⟩ = some (.int .i64 t176)) ∧ (w'.heap[gb167]? = some (.cells #[.slice A1_0 l1_0.length c1_0, .int .i64 a1_1, .int .i64 a1_2] 49 (0, 0))) ∧ (w'.heap[gb168]? = some (.cells #[.int .i64 0, .int .i64 0, .int .i64 0, .int .i64 0, .int .i64 0] 31 (0, 0))) ∧ (w'.heap[gb178]? = some (.cells #[.int .i64 t172, .int .i64 t173, .int .i64 t174, .int .i64 t175, .int .i64 t176] 71 (0, 0))) ∧ (w'.heap[s_]? = some (.cells #[.int .i64 0, .int .i64 0, .int .i64 0, .int .i64 0, .int .i64 0] 31 (0, 0))) ∧ (w.heap.size ≤ s_) ∧ (w.heap.size ≤ s_) ∧ (gb167 ≠ s_) ∧ (s_ ≠ gb167) ∧ (gb168 ≠ s_) ∧ (s_ ≠ gb168) ∧ (gb178 ≠ s_) ∧ (s_ ≠ gb178) ∧ (Below w.heap.size w w')) ?_ ?_
    rotate_left
    ·intro hCont
     refine two_ (i := 6) (j := 8) (Ni := some 40) (Nj := some 10) zq4_8 zq4_9 rfl rfl rfl rfl (two_of HT_.out (by kernel_rfl)) (by decide) (by decide) (fun K hK => ?_) (fun K hK => ?_)
     ·skip
      refine goes_ Try.func78 (by kernel_rfl) rfl #[.agg #[.int .i64 t172, .int .i64 t173, .int .i64 t174, .int .i64 t175, .int .i64 t176], .slice A1_0 l1_0.length c1_0] (by rfl) rfl rfl zT4 ?_
      with_reducible refine (spec_Target.calls t172 t173 t174 t175 t176 _ _ l1_0 t179 _ ?side1 ?side2 A24.out).mono ?_
      (case side1 => exact zC4 (Kd.C_below HR1_0.out HB.out))
      (case side2 => exact HC1_0.out)
      rintro e w35 ⟨rfl, hb⟩
      refine ⟨_, rfl, ?_⟩
      have n0_ := Aside0.mk (zb4 BK167.out hb)
      have n1_ := Aside0.mk (zb4 BK168.out hb)
      have n2_ := Aside0.mk (zb4 BK178.out hb)
      have n3_ := Aside0.mk (below_step (zB4_3) hb)
      clear BK167 BK168 BK178 HB
      have BK167 := n0_
      have BK168 := n1_
      have BK178 := n2_
      have HB := n3_
      clear n0_ n1_ n2_ n3_
      (try clear hb)
      (try clear hb2)
      (try clear hk)
      (try clear hi)
      refine hK.out _ _ ⟨(blk_cell BK167.out 0).trans rfl, (blk_cell BK167.out 1).trans rfl, (blk_cell BK167.out 2).trans rfl, (blk_cell BK178.out 0).trans rfl, (blk_cell BK178.out 1).trans rfl, (blk_cell BK178.out 2).trans rfl, (blk_cell BK178.out 3).trans rfl, (blk_cell BK178.out 4).trans rfl⟩ (fun hHeld => ?_)
      clear hK K
      refine norm_ (a' := ?_) ?_ ?_
      rotate_left
      ·show Act.put _ (some 40) _ = _
       simp only [Act.put, List.setIfInBounds_toArray, List.set_cons_zero, List.set_cons_succ, i64_w, i32_w]
       rfl
      refine pure_ (i := 7) (N := some 41) (v := ?_) (a' := ?_) zq4_10 rfl rfl (any_of HT_.out (by kernel_rfl)) (fun _ _ _ h => h) (Or.inl ⟨by rfl, ?_⟩) ?_ ?_
      rotate_left
      ·intro w'
       go_simp
       with_reducible rfl
      rotate_left
      ·exact zV4
      refine one_ (i := 8) (N := some 10) zq4_7 rfl rfl (one_of HT_.out (by kernel_rfl)) (by decide) (fun K hK => ?_)
      refine box_step ?hg (N := 10) ?hd (cs := #[.int .i64 0, .int .i64 0, .int .i64 0, .int .i64 0, .int .i64 0]) (t := 31) ?hr ?_; (case hd => rfl); (case hg => rfl); (case hr => first | (go_simp; done) | (go_simp; rfl))
      intro gb180 hg w36 hbox hb
      have n0_ := Aside0.mk (zb4 BK167.out hb)
      have n1_ := Aside0.mk (zb4 BK168.out hb)
      have n2_ := Aside0.mk (zb4 BK178.out hb)
      have n3_ := Aside0.mk (below_step (zB4_3) hb)
      have n4_ := Aside0.mk (hbox)
      have n5_ := Aside0.mk ((by rw [hg]; exact (below_size (zB4_3)) : w.heap.size ≤ gb180))
      have n6_ := Aside0.mk ((by rw [hg]; exact (below_size (zB4_3)) : w.heap.size ≤ gb180))
      have n7_ := Aside0.mk ((zn4 BK167.out hg : gb167 ≠ gb180))
      have n8_ := Aside0.mk ((zm4 BK167.out hg : gb180 ≠ gb167))
      have n9_ := Aside0.mk ((zn4 BK168.out hg : gb168 ≠ gb180))
      have n10_ := Aside0.mk ((zm4 BK168.out hg : gb180 ≠ gb168))
      have n11_ := Aside0.mk ((zn4 BK178.out hg : gb178 ≠ gb180))
      have n12_ := Aside0.mk ((zm4 BK178.out hg : gb180 ≠ gb178))
      clear BK167 BK168 BK178 HB
      have BK167 := n0_
      have BK168 := n1_
      have BK178 := n2_
      have HB := n3_
      have BK180 := n4_
      have GW180 := n5_
      have GE180 := n6_
      have NB167_180 := n7_
      have NB180_167 := n8_
      have NB168_180 := n9_
      have NB180_168 := n10_
      have NB178_180 := n11_
      have NB180_178 := n12_
      clear n0_ n1_ n2_ n3_ n4_ n5_ n6_ n7_ n8_ n9_ n10_ n11_ n12_ hb hbox hg
      refine hK.out _ _ ⟨(blk_cell BK167.out 0).trans rfl, (blk_cell BK167.out 1).trans rfl, (blk_cell BK167.out 2).trans rfl, (blk_cell BK178.out 0).trans rfl, (blk_cell BK178.out 1).trans rfl, (blk_cell BK178.out 2).trans rfl, (blk_cell BK178.out 3).trans rfl, (blk_cell BK178.out 4).trans rfl⟩ (fun hHeld => ?_)
      clear hK K
      refine norm_ (a' := ?_) ?_ ?_
      rotate_left
      ·show Act.put _ (some 10) _ = _
       simp only [Act.put, List.setIfInBounds_toArray, List.set_cons_zero, List.set_cons_succ, i64_w, i32_w]
       rfl
      exact norm_ (by simp only [putAll, Act.put, List.setIfInBounds_toArray, List.set_cons_zero, List.set_cons_succ]) (hCont (gb180) _ ⟨hHeld, (zK4 BK167.out), (zK4 BK168.out), (zK4 BK178.out), (zK4 BK180.out), GW180.out, GE180.out, NB167_180.out, NB180_167.out, NB168_180.out, NB180_168.out, NB178_180.out, NB180_178.out, (zB4_4)⟩)
     ·skip
      refine box_step ?hg (N := 10) ?hd (cs := #[.int .i64 0, .int .i64 0, .int .i64 0, .int .i64 0, .int .i64 0]) (t := 31) ?hr ?_; (case hd => rfl); (case hg => rfl); (case hr => first | (go_simp; done) | (go_simp; rfl))
      intro gb180 hg w35 hbox hb
      have n0_ := Aside0.mk (zb4 BK167.out hb)
      have n1_ := Aside0.mk (zb4 BK168.out hb)
      have n2_ := Aside0.mk (zb4 BK178.out hb)
      have n3_ := Aside0.mk (below_step (zB4_3) hb)
      have n4_ := Aside0.mk (hbox)
      have n5_ := Aside0.mk ((by rw [hg]; exact (below_size (zB4_3)) : w.heap.size ≤ gb180))
      have n6_ := Aside0.mk ((by rw [hg]; exact (below_size (zB4_3)) : w.heap.size ≤ gb180))
      have n7_ := Aside0.mk ((zn4 BK167.out hg : gb167 ≠ gb180))
      have n8_ := Aside0.mk ((zm4 BK167.out hg : gb180 ≠ gb167))
      have n9_ := Aside0.mk ((zn4 BK168.out hg : gb168 ≠ gb180))
      have n10_ := Aside0.mk ((zm4 BK168.out hg : gb180 ≠ gb168))
      have n11_ := Aside0.mk ((zn4 BK178.out hg : gb178 ≠ gb180))
      have n12_ := Aside0.mk ((zm4 BK178.out hg : gb180 ≠ gb178))
      clear BK167 BK168 BK178 HB
      have BK167 := n0_
      have BK168 := n1_
      have BK178 := n2_
      have HB := n3_
      have BK180 := n4_
      have GW180 := n5_
      have GE180 := n6_
      have NB167_180 := n7_
      have NB180_167 := n8_
      have NB168_180 := n9_
      have NB180_168 := n10_
      have NB178_180 := n11_
      have NB180_178 := n12_
      clear n0_ n1_ n2_ n3_ n4_ n5_ n6_ n7_ n8_ n9_ n10_ n11_ n12_ hb hbox hg
      refine hK.out _ _ ⟨(blk_cell BK167.out 0).trans rfl, (blk_cell BK167.out 1).trans rfl, (blk_cell BK167.out 2).trans rfl, (blk_cell BK178.out 0).trans rfl, (blk_cell BK178.out 1).trans rfl, (blk_cell BK178.out 2).trans rfl, (blk_cell BK178.out 3).trans rfl, (blk_cell BK178.out 4).trans rfl⟩ (fun hHeld => ?_)
      clear hK K
      refine norm_ (a' := ?_) ?_ ?_
      rotate_left
      ·show Act.put _ (some 10) _ = _
       simp only [Act.put, List.setIfInBounds_toArray, List.set_cons_zero, List.set_cons_succ, i64_w, i32_w]
       rfl
      refine one_ (i := 6) (N := some 40) zq4_11 rfl rfl (one_of HT_.out (by kernel_rfl)) (by decide) (fun K hK => ?_)
      refine goes_ Try.func78 (by kernel_rfl) rfl #[.agg #[.int .i64 t172, .int .i64 t173, .int .i64 t174, .int .i64 t175, .int .i64 t176], .slice A1_0 l1_0.length c1_0] (by rfl) rfl rfl zT4 ?_
      with_reducible refine (spec_Target.calls t172 t173 t174 t175 t176 _ _ l1_0 t179 _ ?side1 ?side2 A24.out).mono ?_
      (case side1 => exact zC4 (Kd.C_below HR1_0.out HB.out))
      (case side2 => exact HC1_0.out)
      rintro e w36 ⟨rfl, hb⟩
      refine ⟨_, rfl, ?_⟩
      have n0_ := Aside0.mk (zb4 BK167.out hb)
      have n1_ := Aside0.mk (zb4 BK168.out hb)
      have n2_ := Aside0.mk (zb4 BK178.out hb)
      have n3_ := Aside0.mk (zb4 BK180.out hb)
      have n4_ := Aside0.mk (below_step (zB4_4) hb)
      clear BK167 BK168 BK178 BK180 HB
      have BK167 := n0_
      have BK168 := n1_
      have BK178 := n2_
      have BK180 := n3_
      have HB := n4_
      clear n0_ n1_ n2_ n3_ n4_
      (try clear hb)
      (try clear hb2)
      (try clear hk)
      (try clear hi)
      refine hK.out _ _ ⟨(blk_cell BK167.out 0).trans rfl, (blk_cell BK167.out 1).trans rfl, (blk_cell BK167.out 2).trans rfl, (blk_cell BK178.out 0).trans rfl, (blk_cell BK178.out 1).trans rfl, (blk_cell BK178.out 2).trans rfl, (blk_cell BK178.out 3).trans rfl, (blk_cell BK178.out 4).trans rfl⟩ (fun hHeld => ?_)
      clear hK K
      refine norm_ (a' := ?_) ?_ ?_
      rotate_left
      ·show Act.put _ (some 40) _ = _
       simp only [Act.put, List.setIfInBounds_toArray, List.set_cons_zero, List.set_cons_succ, i64_w, i32_w]
       rfl
      refine pure_ (i := 7) (N := some 41) (v := ?_) (a' := ?_) zq4_7 rfl rfl (any_of HT_.out (by kernel_rfl)) (fun _ _ _ h => h) (Or.inl ⟨by rfl, ?_⟩) ?_ ?_
      rotate_left
      ·intro w'
       go_simp
       with_reducible rfl
      rotate_left
      ·exact zV4
      exact norm_ (by simp only [putAll, Act.put, List.setIfInBounds_toArray, List.set_cons_zero, List.set_cons_succ]) (hCont (gb180) _ ⟨hHeld, (zK4 BK167.out), (zK4 BK168.out), (zK4 BK178.out), (zK4 BK180.out), GW180.out, GE180.out, NB167_180.out, NB180_167.out, NB168_180.out, NB180_168.out, NB178_180.out, NB180_178.out, (zB4_4)⟩)
    rintro gb180 w37 ⟨hS_, h0_, h1_, h2_, h3_, h4_, h5_, h6_, h7_, h8_, h9_, h10_, h11_, h12_⟩
    have n0_ : Aside0 (w37.heap[gb167]? = some (.cells #[.slice A1_0 l1_0.length c1_0, .int .i64 a1_1, .int .i64 a1_2] 49 (0, 0))) := ⟨h0_⟩
    have n1_ : Aside0 (w37.heap[gb168]? = some (.cells #[.int .i64 0, .int .i64 0, .int .i64 0, .int .i64 0, .int .i64 0] 31 (0, 0))) := ⟨h1_⟩
    have n2_ : Aside0 (w37.heap[gb178]? = some (.cells #[.int .i64 t172, .int .i64 t173, .int .i64 t174, .int .i64 t175, .int .i64 t176] 71 (0, 0))) := ⟨h2_⟩
    have n3_ : Aside0 (w37.heap[gb180]? = some (.cells #[.int .i64 0, .int .i64 0, .int .i64 0, .int .i64 0, .int .i64 0] 31 (0, 0))) := ⟨h3_⟩
    have n4_ : Aside0 (w.heap.size ≤ gb180) := ⟨h4_⟩
    have n5_ : Aside0 (w.heap.size ≤ gb180) := ⟨h5_⟩
    have n6_ : Aside0 (gb167 ≠ gb180) := ⟨h6_⟩
    have n7_ : Aside0 (gb180 ≠ gb167) := ⟨h7_⟩
    have n8_ : Aside0 (gb168 ≠ gb180) := ⟨h8_⟩
    have n9_ : Aside0 (gb180 ≠ gb168) := ⟨h9_⟩
    have n10_ : Aside0 (gb178 ≠ gb180) := ⟨h10_⟩
    have n11_ : Aside0 (gb180 ≠ gb178) := ⟨h11_⟩
    have n12_ : Aside0 (Below w.heap.size w w37) := ⟨h12_⟩
    clear BK167 BK168 BK178 HB h0_ h1_ h2_ h3_ h4_ h5_ h6_ h7_ h8_ h9_ h10_ h11_ h12_
    have BK167 := n0_
    have BK168 := n1_
    have BK178 := n2_
    have BK180 := n3_
    have GW180 := n4_
    have GE180 := n5_
    have NB167_180 := n6_
    have NB180_167 := n7_
    have NB168_180 := n8_
    have NB180_168 := n9_
    have NB178_180 := n10_
    have NB180_178 := n11_
    have HB := n12_
    clear n0_ n1_ n2_ n3_ n4_ n5_ n6_ n7_ n8_ n9_ n10_ n11_ n12_
    have hHeld : w37.cell? ⟨gb167, 0, none⟩ = some (.slice A1_0 l1_0.length c1_0) ∧ w37.cell? ⟨gb167, 1, none⟩ = some (.int .i64 a1_1) ∧ w37.cell? ⟨gb167, 2, none⟩ = some (.int .i64 a1_2) ∧ w37.cell? ⟨gb178, 0, none⟩ = some (.int .i64 t172) ∧ w37.cell? ⟨gb178, 1, none⟩ = some (.int .i64 t173) ∧ w37.cell? ⟨gb178, 2, none⟩ = some (.int .i64 t174) ∧ w37.cell? ⟨gb178, 3, none⟩ = some (.int .i64 t175) ∧ w37.cell? ⟨gb178, 4, none⟩ = some (.int .i64 t176) := hS_
    refine norm_ (a' := ?_) ?_ ?_
    rotate_left
    ·simp only [putAll, Act.put, List.setIfInBounds_toArray, List.set_cons_zero, List.set_cons_succ]
     rfl
    refine one_ (i := 9) (N := none) zq4_12 rfl rfl (one_of HT_.out (by kernel_rfl)) (by decide) (fun K hK => ?_)
    have hs38 : w37.cell? ⟨gb180, 0, none⟩ = some (.int .i64 0) := (blk_cell BK180.out 0).trans rfl
    have hfs38 := blk_frozen BK180.out 0
    have hns38_0 := NB167_180.out
    have hns38_1 := NB168_180.out
    have hns38_2 := NB178_180.out
    have hms38_0 := NB180_167.out
    have hms38_1 := NB180_168.out
    have hms38_2 := NB180_178.out
    have hs39 : w37.cell? ⟨gb180, 1, none⟩ = some (.int .i64 0) := (blk_cell BK180.out 1).trans rfl
    have hfs39 := blk_frozen BK180.out 1
    have hns39_0 := NB167_180.out
    have hns39_1 := NB168_180.out
    have hns39_2 := NB178_180.out
    have hms39_0 := NB180_167.out
    have hms39_1 := NB180_168.out
    have hms39_2 := NB180_178.out
    have hs40 : w37.cell? ⟨gb180, 2, none⟩ = some (.int .i64 0) := (blk_cell BK180.out 2).trans rfl
    have hfs40 := blk_frozen BK180.out 2
    have hns40_0 := NB167_180.out
    have hns40_1 := NB168_180.out
    have hns40_2 := NB178_180.out
    have hms40_0 := NB180_167.out
    have hms40_1 := NB180_168.out
    have hms40_2 := NB180_178.out
    have hs41 : w37.cell? ⟨gb180, 3, none⟩ = some (.int .i64 0) := (blk_cell BK180.out 3).trans rfl
    have hfs41 := blk_frozen BK180.out 3
    have hns41_0 := NB167_180.out
    have hns41_1 := NB168_180.out
    have hns41_2 := NB178_180.out
    have hms41_0 := NB180_167.out
    have hms41_1 := NB180_168.out
    have hms41_2 := NB180_178.out
    have hs42 : w37.cell? ⟨gb180, 4, none⟩ = some (.int .i64 0) := (blk_cell BK180.out 4).trans rfl
    have hfs42 := blk_frozen BK180.out 4
    have hns42_0 := NB167_180.out
    have hns42_1 := NB168_180.out
    have hns42_2 := NB178_180.out
    have hms42_0 := NB180_167.out
    have hms42_1 := NB180_168.out
    have hms42_2 := NB180_178.out
    refine skip_ (w1 := ?_) (by rfl) rfl ?_ ?_
    rotate_left
    ·go_simp
     rfl
    refine hK.out _ _ ⟨((cell_far (p := ⟨gb180, _, none⟩) NB167_180.out _).trans (((cell_far (p := ⟨gb180, _, none⟩) NB167_180.out _).trans (((cell_far (p := ⟨gb180, _, none⟩) NB167_180.out _).trans (((cell_far (p := ⟨gb180, _, none⟩) NB167_180.out _).trans (((cell_far (p := ⟨gb180, _, none⟩) NB167_180.out _).trans (hHeld.1)))))))))), ((cell_far (p := ⟨gb180, _, none⟩) NB167_180.out _).trans (((cell_far (p := ⟨gb180, _, none⟩) NB167_180.out _).trans (((cell_far (p := ⟨gb180, _, none⟩) NB167_180.out _).trans (((cell_far (p := ⟨gb180, _, none⟩) NB167_180.out _).trans (((cell_far (p := ⟨gb180, _, none⟩) NB167_180.out _).trans (hHeld.2.1)))))))))), ((cell_far (p := ⟨gb180, _, none⟩) NB167_180.out _).trans (((cell_far (p := ⟨gb180, _, none⟩) NB167_180.out _).trans (((cell_far (p := ⟨gb180, _, none⟩) NB167_180.out _).trans (((cell_far (p := ⟨gb180, _, none⟩) NB167_180.out _).trans (((cell_far (p := ⟨gb180, _, none⟩) NB167_180.out _).trans (hHeld.2.2.1)))))))))), ((cell_far (p := ⟨gb180, _, none⟩) NB178_180.out _).trans (((cell_far (p := ⟨gb180, _, none⟩) NB178_180.out _).trans (((cell_far (p := ⟨gb180, _, none⟩) NB178_180.out _).trans (((cell_far (p := ⟨gb180, _, none⟩) NB178_180.out _).trans (((cell_far (p := ⟨gb180, _, none⟩) NB178_180.out _).trans (hHeld.2.2.2.1)))))))))), ((cell_far (p := ⟨gb180, _, none⟩) NB178_180.out _).trans (((cell_far (p := ⟨gb180, _, none⟩) NB178_180.out _).trans (((cell_far (p := ⟨gb180, _, none⟩) NB178_180.out _).trans (((cell_far (p := ⟨gb180, _, none⟩) NB178_180.out _).trans (((cell_far (p := ⟨gb180, _, none⟩) NB178_180.out _).trans (hHeld.2.2.2.2.1)))))))))), ((cell_far (p := ⟨gb180, _, none⟩) NB178_180.out _).trans (((cell_far (p := ⟨gb180, _, none⟩) NB178_180.out _).trans (((cell_far (p := ⟨gb180, _, none⟩) NB178_180.out _).trans (((cell_far (p := ⟨gb180, _, none⟩) NB178_180.out _).trans (((cell_far (p := ⟨gb180, _, none⟩) NB178_180.out _).trans (hHeld.2.2.2.2.2.1)))))))))), ((cell_far (p := ⟨gb180, _, none⟩) NB178_180.out _).trans (((cell_far (p := ⟨gb180, _, none⟩) NB178_180.out _).trans (((cell_far (p := ⟨gb180, _, none⟩) NB178_180.out _).trans (((cell_far (p := ⟨gb180, _, none⟩) NB178_180.out _).trans (((cell_far (p := ⟨gb180, _, none⟩) NB178_180.out _).trans (hHeld.2.2.2.2.2.2.1)))))))))), ((cell_far (p := ⟨gb180, _, none⟩) NB178_180.out _).trans (((cell_far (p := ⟨gb180, _, none⟩) NB178_180.out _).trans (((cell_far (p := ⟨gb180, _, none⟩) NB178_180.out _).trans (((cell_far (p := ⟨gb180, _, none⟩) NB178_180.out _).trans (((cell_far (p := ⟨gb180, _, none⟩) NB178_180.out _).trans (hHeld.2.2.2.2.2.2.2))))))))))⟩ (fun hHeld => ?_)
    clear hK K
    refine done_ (done_of HT_.out (by kernel_rfl)) ?_
    have hnb43 := NB180_167.out
    have hnc43 := NB167_180.out
    have hnb44 := NB180_168.out
    have hnc44 := NB168_180.out
    have hnb45 := NB180_178.out
    have hnc45 := NB178_180.out
    obtain ⟨hcz46_0, hcz46_1, hcz46_2, hcz46_3, hcz46_4, hfz46_0, hfz46_1, hfz46_2, hfz46_3, hfz46_4⟩ := zc4_5 (w := w37) BK180.out
    obtain ⟨hcz47_0, hcz47_1, hcz47_2, hcz47_3, hcz47_4, hfz47_0, hfz47_1, hfz47_2, hfz47_3, hfz47_4⟩ := zc4_5 (w := w37) BK168.out
    try go_wp2
    refine bodyPost_ret (results_ct rfl _ _ gb168 31 #[.int .i64 a2, .int .i64 a1_1, .int .i64 t179, .int .i64 (-1), .int .i64 (-1)] (0, 0) _ rfl (by refine zP4 ?_; refine blk_put (cs := #[.int .i64 a2, .int .i64 a1_1, .int .i64 t179, .int .i64 (-1), .int .i64 0]) ?_ 4 _ rfl; refine zP4 ?_; refine blk_put (cs := #[.int .i64 a2, .int .i64 a1_1, .int .i64 t179, .int .i64 0, .int .i64 0]) ?_ 3 _ rfl; refine zP4 ?_; refine blk_put (cs := #[.int .i64 a2, .int .i64 a1_1, .int .i64 0, .int .i64 0, .int .i64 0]) ?_ 2 _ rfl; refine zP4 ?_; refine blk_put (cs := #[.int .i64 a2, .int .i64 0, .int .i64 0, .int .i64 0, .int .i64 0]) ?_ 1 _ rfl; refine zP4 ?_; refine blk_put (cs := #[.int .i64 0, .int .i64 0, .int .i64 0, .int .i64 0, .int .i64 0]) ?_ 0 _ rfl; refine zP4 ?_; refine blk_far ?_ NB168_180.out _; refine zP4 ?_; refine blk_far ?_ NB168_180.out _; refine zP4 ?_; refine blk_far ?_ NB168_180.out _; refine zP4 ?_; refine blk_far ?_ NB168_180.out _; refine zP4 ?_; refine blk_far ?_ NB168_180.out _; refine zP4 ?_; exact BK168.out) Try.underlying31 rfl (by kernel_rfl)) rfl ?_
    exact ⟨zE4, zB4_4⟩
   rw [if_neg c25] at H
   have c25b0 : decide (t179 < 0) = false := decide_eq_false c25
   clear c25
   by_cases c48 : 0 ≤ t179
   rotate_left
   ·rw [if_neg c48] at H
    exact absurd H (by simp)
   rw [if_pos c48] at H
   have c48b0 : decide (0 ≤ t179) = true := decide_eq_true c48
   clear c48
   by_cases c49 : t179 < (l0.length : Int)
   rotate_left
   ·rw [if_neg c49] at H
    exact absurd H (by simp)
   rw [if_pos c49] at H
   have c49b0 : decide (t179 < (l0.length : Int)) = true := decide_eq_true c49
   clear c49
   replace H := Option.bind_eq_some_iff.mp H
   obtain ⟨⟨t182, t185, t186, t187⟩, A500, H⟩ := H
   replace H : (if t172 = 5 then (some (a2, a1_1, t179, (-1), t187, true)) else (some (a2, a1_1, t179, rd l0 t179, t187, true))) = some (r1, r2, r3, r4, r5, r6) := H
   have A50 := Aside0.mk A500
   clear A500
   by_cases c51 : t172 = 5
   ·rw [if_pos c51] at H
    have c51b0 : (t172 == 5) = true := beq_iff_eq.mpr c51
    have c51b1 : (t172 != 5) = false := bne_eq_false_iff_eq.mpr c51
    clear c51
    simp only [Option.some.injEq, Prod.mk.injEq] at H
    obtain ⟨rfl, rfl, rfl, rfl, rfl, rfl⟩ := H
    have hnb52 := NB167_168.out
    have hnc52 := NB168_167.out
    obtain ⟨hcz53_0, hcz53_1, hcz53_2, hfz53_0, hfz53_1, hfz53_2⟩ := zc4_3 (w := wc) BK167.out
    have p171 : 0 ≤ (a1_1 : Int) := zA4
    have q171 : a1_1 < (l0.length : Int) := zA4
    obtain ⟨ad171, e171, hx171_0⟩ := Kd.at_int HR0.out a1_1 p171 q171
    cases e171
    replace hx171_0 := (HB.out.cell (World.block_lt_of_cell? w _ hx171_0)).trans hx171_0
    replace p171 := eq_true p171
    replace q171 := eq_true q171
    try go_wp2_with (first | ((with_reducible refine gate_callee (f := 77) rfl ?_); refine goesL_ (some 31) rfl rfl Try.func77 (by kernel_rfl) rfl #[.int .i64 (rd l0 a1_1)] rfl zT4 ?_; (with_reducible refine (spec_Decode.calls (rd l0 a1_1) t172 t173 t174 t175 t176 t177 _ A23.out).mono ?_); rintro e w54 ⟨rfl, hb⟩; refine ⟨_, rfl, ?_⟩; have n0_ := Aside0.mk (zb4 BK167.out hb); have n1_ := Aside0.mk (zb4 BK168.out hb); have n2_ := Aside0.mk (below_step (zB4_2) hb); clear BK167; clear BK168; clear HB; have BK167 := n0_; have BK168 := n1_; have HB := n2_; clear n0_ n1_ n2_; (try clear hb); (try clear hb2); (try clear hk); (try clear hi)) | ((with_reducible refine gate_dst (N := 8) rfl ?_); refine box_event ?hg (N := 8) ?hd (cs := #[.int .i64 0, .int .i64 0, .int .i64 0, .int .i64 0, .int .i64 0]) (t := 71) ?hr ?_; (case hd => rfl); (case hg => rfl); (case hr => first | (go_simp; done) | (go_simp; rfl)); intro gb178 hg w55 hbox hb; have n0_ := Aside0.mk (zb4 BK167.out hb); have n1_ := Aside0.mk (zb4 BK168.out hb); have n2_ := Aside0.mk (below_step (zB4_2) hb); have n3_ := Aside0.mk (hbox); have n4_ := Aside0.mk ((by rw [hg]; exact (below_size (zB4_2)) : w.heap.size ≤ gb178)); have n5_ := Aside0.mk ((by rw [hg]; exact (below_size (zB4_2)) : w.heap.size ≤ gb178)); have n6_ := Aside0.mk ((zn4 BK167.out hg : gb167 ≠ gb178)); have n7_ := Aside0.mk ((zm4 BK167.out hg : gb178 ≠ gb167)); have n8_ := Aside0.mk ((zn4 BK168.out hg : gb168 ≠ gb178)); have n9_ := Aside0.mk ((zm4 BK168.out hg : gb178 ≠ gb168)); clear BK167; clear BK168; clear HB; have BK167 := n0_; have BK168 := n1_; have HB := n2_; have BK178 := n3_; have GW178 := n4_; have GE178 := n5_; have NB167_178 := n6_; have NB178_167 := n7_; have NB168_178 := n8_; have NB178_168 := n9_; clear n0_ n1_ n2_ n3_ n4_ n5_ n6_ n7_ n8_ n9_; clear hb hbox hg; have hnb56 := NB178_167.out; have hnc56 := NB167_178.out; have hnb57 := NB178_168.out; have hnc57 := NB168_178.out; obtain ⟨hcz58_0, hcz58_1, hcz58_2, hcz58_3, hcz58_4, hfz58_0, hfz58_1, hfz58_2, hfz58_3, hfz58_4⟩ := zc4_5 (w := w55) BK178.out))
    have n0_ : Aside0 ((((((w55.setCell ⟨gb178, 0, none⟩ (.int .i64 t172)).setCell ⟨gb178, 1, none⟩ (.int .i64 t173)).setCell ⟨gb178, 2, none⟩ (.int .i64 t174)).setCell ⟨gb178, 3, none⟩ (.int .i64 t175)).setCell ⟨gb178, 4, none⟩ (.int .i64 t176)).heap[gb167]? = some (.cells #[.slice A1_0 l1_0.length c1_0, .int .i64 a1_1, .int .i64 a1_2] 49 (0, 0))) := ⟨by refine zP4 ?_; refine blk_far ?_ NB167_178.out _; refine zP4 ?_; refine blk_far ?_ NB167_178.out _; refine zP4 ?_; refine blk_far ?_ NB167_178.out _; refine zP4 ?_; refine blk_far ?_ NB167_178.out _; refine zP4 ?_; refine blk_far ?_ NB167_178.out _; refine zP4 ?_; exact BK167.out⟩
    have n1_ : Aside0 ((((((w55.setCell ⟨gb178, 0, none⟩ (.int .i64 t172)).setCell ⟨gb178, 1, none⟩ (.int .i64 t173)).setCell ⟨gb178, 2, none⟩ (.int .i64 t174)).setCell ⟨gb178, 3, none⟩ (.int .i64 t175)).setCell ⟨gb178, 4, none⟩ (.int .i64 t176)).heap[gb168]? = some (.cells #[.int .i64 0, .int .i64 0, .int .i64 0, .int .i64 0, .int .i64 0] 31 (0, 0))) := ⟨by refine zP4 ?_; refine blk_far ?_ NB168_178.out _; refine zP4 ?_; refine blk_far ?_ NB168_178.out _; refine zP4 ?_; refine blk_far ?_ NB168_178.out _; refine zP4 ?_; refine blk_far ?_ NB168_178.out _; refine zP4 ?_; refine blk_far ?_ NB168_178.out _; refine zP4 ?_; exact BK168.out⟩
    have n2_ : Aside0 ((((((w55.setCell ⟨gb178, 0, none⟩ (.int .i64 t172)).setCell ⟨gb178, 1, none⟩ (.int .i64 t173)).setCell ⟨gb178, 2, none⟩ (.int .i64 t174)).setCell ⟨gb178, 3, none⟩ (.int .i64 t175)).setCell ⟨gb178, 4, none⟩ (.int .i64 t176)).heap[gb178]? = some (.cells #[.int .i64 t172, .int .i64 t173, .int .i64 t174, .int .i64 t175, .int .i64 t176] 71 (0, 0))) := ⟨by refine zP4 ?_; refine blk_put (cs := #[.int .i64 t172, .int .i64 t173, .int .i64 t174, .int .i64 t175, .int .i64 0]) ?_ 4 _ rfl; refine zP4 ?_; refine blk_put (cs := #[.int .i64 t172, .int .i64 t173, .int .i64 t174, .int .i64 0, .int .i64 0]) ?_ 3 _ rfl; refine zP4 ?_; refine blk_put (cs := #[.int .i64 t172, .int .i64 t173, .int .i64 0, .int .i64 0, .int .i64 0]) ?_ 2 _ rfl; refine zP4 ?_; refine blk_put (cs := #[.int .i64 t172, .int .i64 0, .int .i64 0, .int .i64 0, .int .i64 0]) ?_ 1 _ rfl; refine zP4 ?_; refine blk_put (cs := #[.int .i64 0, .int .i64 0, .int .i64 0, .int .i64 0, .int .i64 0]) ?_ 0 _ rfl; refine zP4 ?_; exact BK178.out⟩
    have n3_ : Aside0 (Below w.heap.size w (((((w55.setCell ⟨gb178, 0, none⟩ (.int .i64 t172)).setCell ⟨gb178, 1, none⟩ (.int .i64 t173)).setCell ⟨gb178, 2, none⟩ (.int .i64 t174)).setCell ⟨gb178, 3, none⟩ (.int .i64 t175)).setCell ⟨gb178, 4, none⟩ (.int .i64 t176))) := ⟨zB4_3⟩
    (try clear BK167)
    (try clear BK168)
    (try clear BK178)
    (try clear HB)
    generalize (((((w55.setCell ⟨gb178, 0, none⟩ (.int .i64 t172)).setCell ⟨gb178, 1, none⟩ (.int .i64 t173)).setCell ⟨gb178, 2, none⟩ (.int .i64 t174)).setCell ⟨gb178, 3, none⟩ (.int .i64 t175)).setCell ⟨gb178, 4, none⟩ (.int .i64 t176)) = w59 at n0_ n1_ n2_ n3_ ⊢
    have BK167 := n0_
    have BK168 := n1_
    have BK178 := n2_
    have HB := n3_
    clear n0_ n1_ n2_ n3_
    have n0_ := Aside0.mk (blk_drew BK167.out)
    have n1_ := Aside0.mk (blk_drew BK168.out)
    have n2_ := Aside0.mk (blk_drew BK178.out)
    have n3_ := Aside0.mk (below_drew1 HB.out)
    clear BK167 BK168 BK178 HB
    have BK167 := n0_
    have BK168 := n1_
    have BK178 := n2_
    have HB := n3_
    clear n0_ n1_ n2_ n3_
    refine start_ (n := 10) (S := fun w' => w'.cell? ⟨gb167, 0, none⟩ = some (.slice A1_0 l1_0.length c1_0) ∧ w'.cell? ⟨gb167, 1, none⟩ = some (.int .i64 a1_1) ∧ w'.cell? ⟨gb167, 2, none⟩ = some (.int .i64 a1_2) ∧ w'.cell? ⟨gb178, 0, none⟩ = some (.int .i64 t172) ∧ w'.cell? ⟨gb178, 1, none⟩ = some (.int .i64 t173) ∧ w'.cell? ⟨gb178, 2, none⟩ = some (.int .i64 t174) ∧ w'.cell? ⟨gb178, 3, none⟩ = some (.int .i64 t175) ∧ w'.cell? ⟨gb178, 4, none⟩ = some (.int .i64 t176)) (ds := []) zq4_0 (by kernel_rfl) rfl rfl ⟨(blk_cell BK167.out 0).trans rfl, (blk_cell BK167.out 1).trans rfl, (blk_cell BK167.out 2).trans rfl, (blk_cell BK178.out 0).trans rfl, (blk_cell BK178.out 1).trans rfl, (blk_cell BK178.out 2).trans rfl, (blk_cell BK178.out 3).trans rfl, (blk_cell BK178.out 4).trans rfl⟩ (fun hHeld => ?_); refine with_tabW spec_EventOf.tab4 spec_EventOf.bits4 (fun HT_ HW_ => ?_)
    generalize w59.drew = w60 at BK167 BK168 BK178 HB hHeld ⊢
    refine pure_ (i := 0) (N := some 34) (v := ?_) (a' := ?_) zq4_1 rfl rfl (any_of HT_.out (by kernel_rfl)) (fun _ _ _ h => h) (Or.inl ⟨by rfl, ?_⟩) ?_ ?_
    rotate_left
    ·intro w'
     go_simp
     with_reducible rfl
    rotate_left
    ·exact zV4
    refine pure_ (i := 1) (N := some 35) (v := ?_) (a' := ?_) zq4_2 rfl rfl (any_of HT_.out (by kernel_rfl)) (fun _ _ _ h => h) (Or.inl ⟨by rfl, ?_⟩) ?_ ?_
    rotate_left
    ·intro w'
     go_simp
     with_reducible rfl
    rotate_left
    ·exact zV4
    refine pure_ (i := 4) (N := some 38) (v := ?_) (a' := ?_) zq4_3 rfl rfl (any_of HT_.out (by kernel_rfl)) (fun _ _ _ h => h) (Or.inl ⟨by rfl, ?_⟩) ?_ ?_
    rotate_left
    ·intro w'
     go_simp
     with_reducible rfl
    rotate_left
    ·exact zV4
    refine take_ (i := 2) (N := some 36) (v := ?_) (a' := ?_) zq4_4 rfl rfl (take_ofW HT_.out HW_.out (by kernel_rfl)) (fun _ _ _ h => h) (Or.inl ⟨by rfl, ?_⟩) hHeld ?_ ?_
    rotate_left
    ·rintro w' ⟨s0, s1, s2, s3, s4, s5, s6, s7⟩
     go_simp
     with_reducible rfl
    rotate_left
    ·exact zV4
    refine take_ (i := 3) (N := some 37) (v := ?_) (a' := ?_) zq4_5 rfl rfl (take_ofW HT_.out HW_.out (by kernel_rfl)) (fun _ _ _ h => h) (Or.inl ⟨by rfl, ?_⟩) hHeld ?_ ?_
    rotate_left
    ·rintro w' ⟨s0, s1, s2, s3, s4, s5, s6, s7⟩
     go_simp
     with_reducible rfl
    rotate_left
    ·exact zV4
    refine take_ (i := 5) (N := some 39) (v := ?_) (a' := ?_) zq4_6 rfl rfl (take_ofW HT_.out HW_.out (by kernel_rfl)) (fun _ _ _ h => h) (Or.inl ⟨by rfl, ?_⟩) hHeld ?_ ?_
    rotate_left
    ·rintro w' ⟨s0, s1, s2, s3, s4, s5, s6, s7⟩
     go_simp
     with_reducible rfl
    rotate_left
    ·exact zV4
    refine join_ (σ := Nat) 1 zq4_7 (fun s_ => [(40, .int .i64 t179), (10, .pointer (some ⟨s_, 0, none⟩)), (41, .agg #[.int .i64 a2, .int .i64 a1_1, .int .i64 t179, .int .i64 (-1), .int .i64 (-1)])]) (fun s_ w' => (w'.cell? ⟨gb167, 0, none⟩ = some (.slice A1_0 l1_0.length c1_0) ∧ w'.cell? ⟨gb167, 1, none⟩ = some (.int .i64 a1_1) ∧ w'.cell? ⟨gb167, 2, none⟩ = some (.int .i64 a1_2) ∧ w'.cell? ⟨gb178, 0, none⟩ = some (.int .i64 t172) ∧ w'.cell? ⟨gb178, 1, none⟩ = some (.int .i64 t173) ∧ w'.cell? ⟨gb178, 2, none⟩ = some (.int .i64 t174) ∧ w'.cell? ⟨gb178, 3, none⟩ = some (.int .i64 t175) ∧ w'.cell? ⟨gb178, 4, none⟩ = some (.int .i64 t176)) ∧ (w'.heap[gb167]? = some (.cells #[.slice A1_0 l1_0.length c1_0, .int .i64 a1_1, .int .i64 a1_2] 49 (0, 0))) ∧ (w'.heap[gb168]? = some (.cells #[.int .i64 0, .int .i64 0, .int .i64 0, .int .i64 0, .int .i64 0] 31 (0, 0))) ∧ (w'.heap[gb178]? = some (.cells #[.int .i64 t172, .int .i64 t173, .int .i64 t174, .int .i64 t175, .int .i64 t176] 71 (0, 0))) ∧ (w'.heap[s_]? = some (.cells #[.int .i64 0, .int .i64 0, .int .i64 0, .int .i64 0, .int .i64 0] 31 (0, 0))) ∧ (w.heap.size ≤ s_) ∧ (w.heap.size ≤ s_) ∧ (gb167 ≠ s_) ∧ (s_ ≠ gb167) ∧ (gb168 ≠ s_) ∧ (s_ ≠ gb168) ∧ (gb178 ≠ s_) ∧ (s_ ≠ gb178) ∧ (Below w.heap.size w w')) ?_ ?_
    rotate_left
    ·intro hCont
     refine two_ (i := 6) (j := 8) (Ni := some 40) (Nj := some 10) zq4_8 zq4_9 rfl rfl rfl rfl (two_of HT_.out (by kernel_rfl)) (by decide) (by decide) (fun K hK => ?_) (fun K hK => ?_)
     ·skip
      refine goes_ Try.func78 (by kernel_rfl) rfl #[.agg #[.int .i64 t172, .int .i64 t173, .int .i64 t174, .int .i64 t175, .int .i64 t176], .slice A1_0 l1_0.length c1_0] (by rfl) rfl rfl zT4 ?_
      with_reducible refine (spec_Target.calls t172 t173 t174 t175 t176 _ _ l1_0 t179 _ ?side1 ?side2 A24.out).mono ?_
      (case side1 => exact zC4 (Kd.C_below HR1_0.out HB.out))
      (case side2 => exact HC1_0.out)
      rintro e w61 ⟨rfl, hb⟩
      refine ⟨_, rfl, ?_⟩
      have n0_ := Aside0.mk (zb4 BK167.out hb)
      have n1_ := Aside0.mk (zb4 BK168.out hb)
      have n2_ := Aside0.mk (zb4 BK178.out hb)
      have n3_ := Aside0.mk (below_step (zB4_3) hb)
      clear BK167 BK168 BK178 HB
      have BK167 := n0_
      have BK168 := n1_
      have BK178 := n2_
      have HB := n3_
      clear n0_ n1_ n2_ n3_
      (try clear hb)
      (try clear hb2)
      (try clear hk)
      (try clear hi)
      refine hK.out _ _ ⟨(blk_cell BK167.out 0).trans rfl, (blk_cell BK167.out 1).trans rfl, (blk_cell BK167.out 2).trans rfl, (blk_cell BK178.out 0).trans rfl, (blk_cell BK178.out 1).trans rfl, (blk_cell BK178.out 2).trans rfl, (blk_cell BK178.out 3).trans rfl, (blk_cell BK178.out 4).trans rfl⟩ (fun hHeld => ?_)
      clear hK K
      refine norm_ (a' := ?_) ?_ ?_
      rotate_left
      ·show Act.put _ (some 40) _ = _
       simp only [Act.put, List.setIfInBounds_toArray, List.set_cons_zero, List.set_cons_succ, i64_w, i32_w]
       rfl
      refine pure_ (i := 7) (N := some 41) (v := ?_) (a' := ?_) zq4_10 rfl rfl (any_of HT_.out (by kernel_rfl)) (fun _ _ _ h => h) (Or.inl ⟨by rfl, ?_⟩) ?_ ?_
      rotate_left
      ·intro w'
       go_simp
       with_reducible rfl
      rotate_left
      ·exact zV4
      refine one_ (i := 8) (N := some 10) zq4_7 rfl rfl (one_of HT_.out (by kernel_rfl)) (by decide) (fun K hK => ?_)
      refine box_step ?hg (N := 10) ?hd (cs := #[.int .i64 0, .int .i64 0, .int .i64 0, .int .i64 0, .int .i64 0]) (t := 31) ?hr ?_; (case hd => rfl); (case hg => rfl); (case hr => first | (go_simp; done) | (go_simp; rfl))
      intro gb180 hg w62 hbox hb
      have n0_ := Aside0.mk (zb4 BK167.out hb)
      have n1_ := Aside0.mk (zb4 BK168.out hb)
      have n2_ := Aside0.mk (zb4 BK178.out hb)
      have n3_ := Aside0.mk (below_step (zB4_3) hb)
      have n4_ := Aside0.mk (hbox)
      have n5_ := Aside0.mk ((by rw [hg]; exact (below_size (zB4_3)) : w.heap.size ≤ gb180))
      have n6_ := Aside0.mk ((by rw [hg]; exact (below_size (zB4_3)) : w.heap.size ≤ gb180))
      have n7_ := Aside0.mk ((zn4 BK167.out hg : gb167 ≠ gb180))
      have n8_ := Aside0.mk ((zm4 BK167.out hg : gb180 ≠ gb167))
      have n9_ := Aside0.mk ((zn4 BK168.out hg : gb168 ≠ gb180))
      have n10_ := Aside0.mk ((zm4 BK168.out hg : gb180 ≠ gb168))
      have n11_ := Aside0.mk ((zn4 BK178.out hg : gb178 ≠ gb180))
      have n12_ := Aside0.mk ((zm4 BK178.out hg : gb180 ≠ gb178))
      clear BK167 BK168 BK178 HB
      have BK167 := n0_
      have BK168 := n1_
      have BK178 := n2_
      have HB := n3_
      have BK180 := n4_
      have GW180 := n5_
      have GE180 := n6_
      have NB167_180 := n7_
      have NB180_167 := n8_
      have NB168_180 := n9_
      have NB180_168 := n10_
      have NB178_180 := n11_
      have NB180_178 := n12_
      clear n0_ n1_ n2_ n3_ n4_ n5_ n6_ n7_ n8_ n9_ n10_ n11_ n12_ hb hbox hg
      refine hK.out _ _ ⟨(blk_cell BK167.out 0).trans rfl, (blk_cell BK167.out 1).trans rfl, (blk_cell BK167.out 2).trans rfl, (blk_cell BK178.out 0).trans rfl, (blk_cell BK178.out 1).trans rfl, (blk_cell BK178.out 2).trans rfl, (blk_cell BK178.out 3).trans rfl, (blk_cell BK178.out 4).trans rfl⟩ (fun hHeld => ?_)
      clear hK K
      refine norm_ (a' := ?_) ?_ ?_
      rotate_left
      ·show Act.put _ (some 10) _ = _
       simp only [Act.put, List.setIfInBounds_toArray, List.set_cons_zero, List.set_cons_succ, i64_w, i32_w]
       rfl
      exact norm_ (by simp only [putAll, Act.put, List.setIfInBounds_toArray, List.set_cons_zero, List.set_cons_succ]) (hCont (gb180) _ ⟨hHeld, (zK4 BK167.out), (zK4 BK168.out), (zK4 BK178.out), (zK4 BK180.out), GW180.out, GE180.out, NB167_180.out, NB180_167.out, NB168_180.out, NB180_168.out, NB178_180.out, NB180_178.out, (zB4_4)⟩)
     ·skip
      refine box_step ?hg (N := 10) ?hd (cs := #[.int .i64 0, .int .i64 0, .int .i64 0, .int .i64 0, .int .i64 0]) (t := 31) ?hr ?_; (case hd => rfl); (case hg => rfl); (case hr => first | (go_simp; done) | (go_simp; rfl))
      intro gb180 hg w61 hbox hb
      have n0_ := Aside0.mk (zb4 BK167.out hb)
      have n1_ := Aside0.mk (zb4 BK168.out hb)
      have n2_ := Aside0.mk (zb4 BK178.out hb)
      have n3_ := Aside0.mk (below_step (zB4_3) hb)
      have n4_ := Aside0.mk (hbox)
      have n5_ := Aside0.mk ((by rw [hg]; exact (below_size (zB4_3)) : w.heap.size ≤ gb180))
      have n6_ := Aside0.mk ((by rw [hg]; exact (below_size (zB4_3)) : w.heap.size ≤ gb180))
      have n7_ := Aside0.mk ((zn4 BK167.out hg : gb167 ≠ gb180))
      have n8_ := Aside0.mk ((zm4 BK167.out hg : gb180 ≠ gb167))
      have n9_ := Aside0.mk ((zn4 BK168.out hg : gb168 ≠ gb180))
      have n10_ := Aside0.mk ((zm4 BK168.out hg : gb180 ≠ gb168))
      have n11_ := Aside0.mk ((zn4 BK178.out hg : gb178 ≠ gb180))
      have n12_ := Aside0.mk ((zm4 BK178.out hg : gb180 ≠ gb178))
      clear BK167 BK168 BK178 HB
      have BK167 := n0_
      have BK168 := n1_
      have BK178 := n2_
      have HB := n3_
      have BK180 := n4_
      have GW180 := n5_
      have GE180 := n6_
      have NB167_180 := n7_
      have NB180_167 := n8_
      have NB168_180 := n9_
      have NB180_168 := n10_
      have NB178_180 := n11_
      have NB180_178 := n12_
      clear n0_ n1_ n2_ n3_ n4_ n5_ n6_ n7_ n8_ n9_ n10_ n11_ n12_ hb hbox hg
      refine hK.out _ _ ⟨(blk_cell BK167.out 0).trans rfl, (blk_cell BK167.out 1).trans rfl, (blk_cell BK167.out 2).trans rfl, (blk_cell BK178.out 0).trans rfl, (blk_cell BK178.out 1).trans rfl, (blk_cell BK178.out 2).trans rfl, (blk_cell BK178.out 3).trans rfl, (blk_cell BK178.out 4).trans rfl⟩ (fun hHeld => ?_)
      clear hK K
      refine norm_ (a' := ?_) ?_ ?_
      rotate_left
      ·show Act.put _ (some 10) _ = _
       simp only [Act.put, List.setIfInBounds_toArray, List.set_cons_zero, List.set_cons_succ, i64_w, i32_w]
       rfl
      refine one_ (i := 6) (N := some 40) zq4_11 rfl rfl (one_of HT_.out (by kernel_rfl)) (by decide) (fun K hK => ?_)
      refine goes_ Try.func78 (by kernel_rfl) rfl #[.agg #[.int .i64 t172, .int .i64 t173, .int .i64 t174, .int .i64 t175, .int .i64 t176], .slice A1_0 l1_0.length c1_0] (by rfl) rfl rfl zT4 ?_
      with_reducible refine (spec_Target.calls t172 t173 t174 t175 t176 _ _ l1_0 t179 _ ?side1 ?side2 A24.out).mono ?_
      (case side1 => exact zC4 (Kd.C_below HR1_0.out HB.out))
      (case side2 => exact HC1_0.out)
      rintro e w62 ⟨rfl, hb⟩
      refine ⟨_, rfl, ?_⟩
      have n0_ := Aside0.mk (zb4 BK167.out hb)
      have n1_ := Aside0.mk (zb4 BK168.out hb)
      have n2_ := Aside0.mk (zb4 BK178.out hb)
      have n3_ := Aside0.mk (zb4 BK180.out hb)
      have n4_ := Aside0.mk (below_step (zB4_4) hb)
      clear BK167 BK168 BK178 BK180 HB
      have BK167 := n0_
      have BK168 := n1_
      have BK178 := n2_
      have BK180 := n3_
      have HB := n4_
      clear n0_ n1_ n2_ n3_ n4_
      (try clear hb)
      (try clear hb2)
      (try clear hk)
      (try clear hi)
      refine hK.out _ _ ⟨(blk_cell BK167.out 0).trans rfl, (blk_cell BK167.out 1).trans rfl, (blk_cell BK167.out 2).trans rfl, (blk_cell BK178.out 0).trans rfl, (blk_cell BK178.out 1).trans rfl, (blk_cell BK178.out 2).trans rfl, (blk_cell BK178.out 3).trans rfl, (blk_cell BK178.out 4).trans rfl⟩ (fun hHeld => ?_)
      clear hK K
      refine norm_ (a' := ?_) ?_ ?_
      rotate_left
      ·show Act.put _ (some 40) _ = _
       simp only [Act.put, List.setIfInBounds_toArray, List.set_cons_zero, List.set_cons_succ, i64_w, i32_w]
       rfl
      refine pure_ (i := 7) (N := some 41) (v := ?_) (a' := ?_) zq4_7 rfl rfl (any_of HT_.out (by kernel_rfl)) (fun _ _ _ h => h) (Or.inl ⟨by rfl, ?_⟩) ?_ ?_
      rotate_left
      ·intro w'
       go_simp
       with_reducible rfl
      rotate_left
      ·exact zV4
      exact norm_ (by simp only [putAll, Act.put, List.setIfInBounds_toArray, List.set_cons_zero, List.set_cons_succ]) (hCont (gb180) _ ⟨hHeld, (zK4 BK167.out), (zK4 BK168.out), (zK4 BK178.out), (zK4 BK180.out), GW180.out, GE180.out, NB167_180.out, NB180_167.out, NB168_180.out, NB180_168.out, NB178_180.out, NB180_178.out, (zB4_4)⟩)
    rintro gb180 w63 ⟨hS_, h0_, h1_, h2_, h3_, h4_, h5_, h6_, h7_, h8_, h9_, h10_, h11_, h12_⟩
    have n0_ : Aside0 (w63.heap[gb167]? = some (.cells #[.slice A1_0 l1_0.length c1_0, .int .i64 a1_1, .int .i64 a1_2] 49 (0, 0))) := ⟨h0_⟩
    have n1_ : Aside0 (w63.heap[gb168]? = some (.cells #[.int .i64 0, .int .i64 0, .int .i64 0, .int .i64 0, .int .i64 0] 31 (0, 0))) := ⟨h1_⟩
    have n2_ : Aside0 (w63.heap[gb178]? = some (.cells #[.int .i64 t172, .int .i64 t173, .int .i64 t174, .int .i64 t175, .int .i64 t176] 71 (0, 0))) := ⟨h2_⟩
    have n3_ : Aside0 (w63.heap[gb180]? = some (.cells #[.int .i64 0, .int .i64 0, .int .i64 0, .int .i64 0, .int .i64 0] 31 (0, 0))) := ⟨h3_⟩
    have n4_ : Aside0 (w.heap.size ≤ gb180) := ⟨h4_⟩
    have n5_ : Aside0 (w.heap.size ≤ gb180) := ⟨h5_⟩
    have n6_ : Aside0 (gb167 ≠ gb180) := ⟨h6_⟩
    have n7_ : Aside0 (gb180 ≠ gb167) := ⟨h7_⟩
    have n8_ : Aside0 (gb168 ≠ gb180) := ⟨h8_⟩
    have n9_ : Aside0 (gb180 ≠ gb168) := ⟨h9_⟩
    have n10_ : Aside0 (gb178 ≠ gb180) := ⟨h10_⟩
    have n11_ : Aside0 (gb180 ≠ gb178) := ⟨h11_⟩
    have n12_ : Aside0 (Below w.heap.size w w63) := ⟨h12_⟩
    clear BK167 BK168 BK178 HB h0_ h1_ h2_ h3_ h4_ h5_ h6_ h7_ h8_ h9_ h10_ h11_ h12_
    have BK167 := n0_
    have BK168 := n1_
    have BK178 := n2_
    have BK180 := n3_
    have GW180 := n4_
    have GE180 := n5_
    have NB167_180 := n6_
    have NB180_167 := n7_
    have NB168_180 := n8_
    have NB180_168 := n9_
    have NB178_180 := n10_
    have NB180_178 := n11_
    have HB := n12_
    clear n0_ n1_ n2_ n3_ n4_ n5_ n6_ n7_ n8_ n9_ n10_ n11_ n12_
    have hHeld : w63.cell? ⟨gb167, 0, none⟩ = some (.slice A1_0 l1_0.length c1_0) ∧ w63.cell? ⟨gb167, 1, none⟩ = some (.int .i64 a1_1) ∧ w63.cell? ⟨gb167, 2, none⟩ = some (.int .i64 a1_2) ∧ w63.cell? ⟨gb178, 0, none⟩ = some (.int .i64 t172) ∧ w63.cell? ⟨gb178, 1, none⟩ = some (.int .i64 t173) ∧ w63.cell? ⟨gb178, 2, none⟩ = some (.int .i64 t174) ∧ w63.cell? ⟨gb178, 3, none⟩ = some (.int .i64 t175) ∧ w63.cell? ⟨gb178, 4, none⟩ = some (.int .i64 t176) := hS_
    refine norm_ (a' := ?_) ?_ ?_
    rotate_left
    ·simp only [putAll, Act.put, List.setIfInBounds_toArray, List.set_cons_zero, List.set_cons_succ]
     rfl
    refine one_ (i := 9) (N := none) zq4_12 rfl rfl (one_of HT_.out (by kernel_rfl)) (by decide) (fun K hK => ?_)
    have hs64 : w63.cell? ⟨gb180, 0, none⟩ = some (.int .i64 0) := (blk_cell BK180.out 0).trans rfl
    have hfs64 := blk_frozen BK180.out 0
    have hns64_0 := NB167_180.out
    have hns64_1 := NB168_180.out
    have hns64_2 := NB178_180.out
    have hms64_0 := NB180_167.out
    have hms64_1 := NB180_168.out
    have hms64_2 := NB180_178.out
    have hs65 : w63.cell? ⟨gb180, 1, none⟩ = some (.int .i64 0) := (blk_cell BK180.out 1).trans rfl
    have hfs65 := blk_frozen BK180.out 1
    have hns65_0 := NB167_180.out
    have hns65_1 := NB168_180.out
    have hns65_2 := NB178_180.out
    have hms65_0 := NB180_167.out
    have hms65_1 := NB180_168.out
    have hms65_2 := NB180_178.out
    have hs66 : w63.cell? ⟨gb180, 2, none⟩ = some (.int .i64 0) := (blk_cell BK180.out 2).trans rfl
    have hfs66 := blk_frozen BK180.out 2
    have hns66_0 := NB167_180.out
    have hns66_1 := NB168_180.out
    have hns66_2 := NB178_180.out
    have hms66_0 := NB180_167.out
    have hms66_1 := NB180_168.out
    have hms66_2 := NB180_178.out
    have hs67 : w63.cell? ⟨gb180, 3, none⟩ = some (.int .i64 0) := (blk_cell BK180.out 3).trans rfl
    have hfs67 := blk_frozen BK180.out 3
    have hns67_0 := NB167_180.out
    have hns67_1 := NB168_180.out
    have hns67_2 := NB178_180.out
    have hms67_0 := NB180_167.out
    have hms67_1 := NB180_168.out
    have hms67_2 := NB180_178.out
    have hs68 : w63.cell? ⟨gb180, 4, none⟩ = some (.int .i64 0) := (blk_cell BK180.out 4).trans rfl
    have hfs68 := blk_frozen BK180.out 4
    have hns68_0 := NB167_180.out
    have hns68_1 := NB168_180.out
    have hns68_2 := NB178_180.out
    have hms68_0 := NB180_167.out
    have hms68_1 := NB180_168.out
    have hms68_2 := NB180_178.out
    refine skip_ (w1 := ?_) (by rfl) rfl ?_ ?_
    rotate_left
    ·go_simp
     rfl
    refine hK.out _ _ ⟨((cell_far (p := ⟨gb180, _, none⟩) NB167_180.out _).trans (((cell_far (p := ⟨gb180, _, none⟩) NB167_180.out _).trans (((cell_far (p := ⟨gb180, _, none⟩) NB167_180.out _).trans (((cell_far (p := ⟨gb180, _, none⟩) NB167_180.out _).trans (((cell_far (p := ⟨gb180, _, none⟩) NB167_180.out _).trans (hHeld.1)))))))))), ((cell_far (p := ⟨gb180, _, none⟩) NB167_180.out _).trans (((cell_far (p := ⟨gb180, _, none⟩) NB167_180.out _).trans (((cell_far (p := ⟨gb180, _, none⟩) NB167_180.out _).trans (((cell_far (p := ⟨gb180, _, none⟩) NB167_180.out _).trans (((cell_far (p := ⟨gb180, _, none⟩) NB167_180.out _).trans (hHeld.2.1)))))))))), ((cell_far (p := ⟨gb180, _, none⟩) NB167_180.out _).trans (((cell_far (p := ⟨gb180, _, none⟩) NB167_180.out _).trans (((cell_far (p := ⟨gb180, _, none⟩) NB167_180.out _).trans (((cell_far (p := ⟨gb180, _, none⟩) NB167_180.out _).trans (((cell_far (p := ⟨gb180, _, none⟩) NB167_180.out _).trans (hHeld.2.2.1)))))))))), ((cell_far (p := ⟨gb180, _, none⟩) NB178_180.out _).trans (((cell_far (p := ⟨gb180, _, none⟩) NB178_180.out _).trans (((cell_far (p := ⟨gb180, _, none⟩) NB178_180.out _).trans (((cell_far (p := ⟨gb180, _, none⟩) NB178_180.out _).trans (((cell_far (p := ⟨gb180, _, none⟩) NB178_180.out _).trans (hHeld.2.2.2.1)))))))))), ((cell_far (p := ⟨gb180, _, none⟩) NB178_180.out _).trans (((cell_far (p := ⟨gb180, _, none⟩) NB178_180.out _).trans (((cell_far (p := ⟨gb180, _, none⟩) NB178_180.out _).trans (((cell_far (p := ⟨gb180, _, none⟩) NB178_180.out _).trans (((cell_far (p := ⟨gb180, _, none⟩) NB178_180.out _).trans (hHeld.2.2.2.2.1)))))))))), ((cell_far (p := ⟨gb180, _, none⟩) NB178_180.out _).trans (((cell_far (p := ⟨gb180, _, none⟩) NB178_180.out _).trans (((cell_far (p := ⟨gb180, _, none⟩) NB178_180.out _).trans (((cell_far (p := ⟨gb180, _, none⟩) NB178_180.out _).trans (((cell_far (p := ⟨gb180, _, none⟩) NB178_180.out _).trans (hHeld.2.2.2.2.2.1)))))))))), ((cell_far (p := ⟨gb180, _, none⟩) NB178_180.out _).trans (((cell_far (p := ⟨gb180, _, none⟩) NB178_180.out _).trans (((cell_far (p := ⟨gb180, _, none⟩) NB178_180.out _).trans (((cell_far (p := ⟨gb180, _, none⟩) NB178_180.out _).trans (((cell_far (p := ⟨gb180, _, none⟩) NB178_180.out _).trans (hHeld.2.2.2.2.2.2.1)))))))))), ((cell_far (p := ⟨gb180, _, none⟩) NB178_180.out _).trans (((cell_far (p := ⟨gb180, _, none⟩) NB178_180.out _).trans (((cell_far (p := ⟨gb180, _, none⟩) NB178_180.out _).trans (((cell_far (p := ⟨gb180, _, none⟩) NB178_180.out _).trans (((cell_far (p := ⟨gb180, _, none⟩) NB178_180.out _).trans (hHeld.2.2.2.2.2.2.2))))))))))⟩ (fun hHeld => ?_)
    clear hK K
    refine done_ (done_of HT_.out (by kernel_rfl)) ?_
    have hnb69 := NB180_167.out
    have hnc69 := NB167_180.out
    have hnb70 := NB180_168.out
    have hnc70 := NB168_180.out
    have hnb71 := NB180_178.out
    have hnc71 := NB178_180.out
    obtain ⟨hcz72_0, hcz72_1, hcz72_2, hcz72_3, hcz72_4, hfz72_0, hfz72_1, hfz72_2, hfz72_3, hfz72_4⟩ := zc4_5 (w := w63) BK180.out
    try go_wp2
    have n0_ : Aside0 ((((((w63.setCell ⟨gb180, 0, none⟩ (.int .i64 a2)).setCell ⟨gb180, 1, none⟩ (.int .i64 a1_1)).setCell ⟨gb180, 2, none⟩ (.int .i64 t179)).setCell ⟨gb180, 3, none⟩ (.int .i64 (-1))).setCell ⟨gb180, 4, none⟩ (.int .i64 (-1))).heap[gb167]? = some (.cells #[.slice A1_0 l1_0.length c1_0, .int .i64 a1_1, .int .i64 a1_2] 49 (0, 0))) := ⟨by refine zP4 ?_; refine blk_far ?_ NB167_180.out _; refine zP4 ?_; refine blk_far ?_ NB167_180.out _; refine zP4 ?_; refine blk_far ?_ NB167_180.out _; refine zP4 ?_; refine blk_far ?_ NB167_180.out _; refine zP4 ?_; refine blk_far ?_ NB167_180.out _; refine zP4 ?_; exact BK167.out⟩
    have n1_ : Aside0 ((((((w63.setCell ⟨gb180, 0, none⟩ (.int .i64 a2)).setCell ⟨gb180, 1, none⟩ (.int .i64 a1_1)).setCell ⟨gb180, 2, none⟩ (.int .i64 t179)).setCell ⟨gb180, 3, none⟩ (.int .i64 (-1))).setCell ⟨gb180, 4, none⟩ (.int .i64 (-1))).heap[gb168]? = some (.cells #[.int .i64 0, .int .i64 0, .int .i64 0, .int .i64 0, .int .i64 0] 31 (0, 0))) := ⟨by refine zP4 ?_; refine blk_far ?_ NB168_180.out _; refine zP4 ?_; refine blk_far ?_ NB168_180.out _; refine zP4 ?_; refine blk_far ?_ NB168_180.out _; refine zP4 ?_; refine blk_far ?_ NB168_180.out _; refine zP4 ?_; refine blk_far ?_ NB168_180.out _; refine zP4 ?_; exact BK168.out⟩
    have n2_ : Aside0 ((((((w63.setCell ⟨gb180, 0, none⟩ (.int .i64 a2)).setCell ⟨gb180, 1, none⟩ (.int .i64 a1_1)).setCell ⟨gb180, 2, none⟩ (.int .i64 t179)).setCell ⟨gb180, 3, none⟩ (.int .i64 (-1))).setCell ⟨gb180, 4, none⟩ (.int .i64 (-1))).heap[gb178]? = some (.cells #[.int .i64 t172, .int .i64 t173, .int .i64 t174, .int .i64 t175, .int .i64 t176] 71 (0, 0))) := ⟨by refine zP4 ?_; refine blk_far ?_ NB178_180.out _; refine zP4 ?_; refine blk_far ?_ NB178_180.out _; refine zP4 ?_; refine blk_far ?_ NB178_180.out _; refine zP4 ?_; refine blk_far ?_ NB178_180.out _; refine zP4 ?_; refine blk_far ?_ NB178_180.out _; refine zP4 ?_; exact BK178.out⟩
    have n3_ : Aside0 ((((((w63.setCell ⟨gb180, 0, none⟩ (.int .i64 a2)).setCell ⟨gb180, 1, none⟩ (.int .i64 a1_1)).setCell ⟨gb180, 2, none⟩ (.int .i64 t179)).setCell ⟨gb180, 3, none⟩ (.int .i64 (-1))).setCell ⟨gb180, 4, none⟩ (.int .i64 (-1))).heap[gb180]? = some (.cells #[.int .i64 a2, .int .i64 a1_1, .int .i64 t179, .int .i64 (-1), .int .i64 (-1)] 31 (0, 0))) := ⟨by refine zP4 ?_; refine blk_put (cs := #[.int .i64 a2, .int .i64 a1_1, .int .i64 t179, .int .i64 (-1), .int .i64 0]) ?_ 4 _ rfl; refine zP4 ?_; refine blk_put (cs := #[.int .i64 a2, .int .i64 a1_1, .int .i64 t179, .int .i64 0, .int .i64 0]) ?_ 3 _ rfl; refine zP4 ?_; refine blk_put (cs := #[.int .i64 a2, .int .i64 a1_1, .int .i64 0, .int .i64 0, .int .i64 0]) ?_ 2 _ rfl; refine zP4 ?_; refine blk_put (cs := #[.int .i64 a2, .int .i64 0, .int .i64 0, .int .i64 0, .int .i64 0]) ?_ 1 _ rfl; refine zP4 ?_; refine blk_put (cs := #[.int .i64 0, .int .i64 0, .int .i64 0, .int .i64 0, .int .i64 0]) ?_ 0 _ rfl; refine zP4 ?_; exact BK180.out⟩
    have n4_ : Aside0 (Below w.heap.size w (((((w63.setCell ⟨gb180, 0, none⟩ (.int .i64 a2)).setCell ⟨gb180, 1, none⟩ (.int .i64 a1_1)).setCell ⟨gb180, 2, none⟩ (.int .i64 t179)).setCell ⟨gb180, 3, none⟩ (.int .i64 (-1))).setCell ⟨gb180, 4, none⟩ (.int .i64 (-1)))) := ⟨zB4_4⟩
    (try clear BK167)
    (try clear BK168)
    (try clear BK178)
    (try clear BK180)
    (try clear HB)
    generalize (((((w63.setCell ⟨gb180, 0, none⟩ (.int .i64 a2)).setCell ⟨gb180, 1, none⟩ (.int .i64 a1_1)).setCell ⟨gb180, 2, none⟩ (.int .i64 t179)).setCell ⟨gb180, 3, none⟩ (.int .i64 (-1))).setCell ⟨gb180, 4, none⟩ (.int .i64 (-1))) = w73 at n0_ n1_ n2_ n3_ n4_ ⊢
    have BK167 := n0_
    have BK168 := n1_
    have BK178 := n2_
    have BK180 := n3_
    have HB := n4_
    clear n0_ n1_ n2_ n3_ n4_
    have n0_ := Aside0.mk (blk_drew BK167.out)
    have n1_ := Aside0.mk (blk_drew BK168.out)
    have n2_ := Aside0.mk (blk_drew BK178.out)
    have n3_ := Aside0.mk (blk_drew BK180.out)
    have n4_ := Aside0.mk (below_drew1 HB.out)
    clear BK167 BK168 BK178 BK180 HB
    have BK167 := n0_
    have BK168 := n1_
    have BK178 := n2_
    have BK180 := n3_
    have HB := n4_
    clear n0_ n1_ n2_ n3_ n4_
    have p181 : 0 ≤ (t179 : Int) := zA4
    have q181 : t179 < (l0.length : Int) := zA4
    obtain ⟨ad181, e181, hx181_0⟩ := Kd.at_int HR0.out t179 p181 q181
    have hw181_0 := hx181_0
    obtain rfl : ad171 = ad181 := (by injection e181)
    replace hx181_0 := (HB.out.cell (World.block_lt_of_cell? w _ hx181_0)).trans hx181_0
    replace p181 := eq_true p181
    replace q181 := eq_true q181
    refine start_ (n := 13) (S := fun w' => w'.cell? ⟨gb167, 0, none⟩ = some (.slice A1_0 l1_0.length c1_0) ∧ w'.cell? ⟨gb167, 1, none⟩ = some (.int .i64 a1_1) ∧ w'.cell? ⟨gb167, 2, none⟩ = some (.int .i64 a1_2) ∧ w'.cell? ⟨gb178, 0, none⟩ = some (.int .i64 t172) ∧ w'.cell? ⟨gb178, 1, none⟩ = some (.int .i64 t173) ∧ w'.cell? ⟨gb178, 2, none⟩ = some (.int .i64 t174) ∧ w'.cell? ⟨gb178, 3, none⟩ = some (.int .i64 t175) ∧ w'.cell? ⟨gb178, 4, none⟩ = some (.int .i64 t176) ∧ w'.cell? ⟨gb180, 0, none⟩ = some (.int .i64 a2) ∧ w'.cell? ⟨gb180, 1, none⟩ = some (.int .i64 a1_1) ∧ w'.cell? ⟨gb180, 2, none⟩ = some (.int .i64 t179) ∧ w'.cell? ⟨gb180, 3, none⟩ = some (.int .i64 (-1)) ∧ w'.cell? ⟨gb180, 4, none⟩ = some (.int .i64 (-1)) ∧ w'.cell? (ad171.add (t179).toNat) = some (.int .i64 (rd l0 t179))) (ds := [12]) zq4_13 (by kernel_rfl) rfl rfl ⟨(blk_cell BK167.out 0).trans rfl, (blk_cell BK167.out 1).trans rfl, (blk_cell BK167.out 2).trans rfl, (blk_cell BK178.out 0).trans rfl, (blk_cell BK178.out 1).trans rfl, (blk_cell BK178.out 2).trans rfl, (blk_cell BK178.out 3).trans rfl, (blk_cell BK178.out 4).trans rfl, (blk_cell BK180.out 0).trans rfl, (blk_cell BK180.out 1).trans rfl, (blk_cell BK180.out 2).trans rfl, (blk_cell BK180.out 3).trans rfl, (blk_cell BK180.out 4).trans rfl, ((HB.out.cell (World.block_lt_of_cell? w _ hw181_0)).trans hw181_0)⟩ (fun hHeld => ?_); refine with_tabW spec_EventOf.tab7 spec_EventOf.bits7 (fun HT_ HW_ => ?_)
    generalize w73.drew = w74 at BK167 BK168 BK178 BK180 HB hx181_0 hHeld ⊢
    refine pure_ (i := 2) (N := some 49) (v := ?_) (a' := ?_) zq4_14 rfl rfl (any_of HT_.out (by kernel_rfl)) (fun _ _ _ h => h) (Or.inl ⟨by rfl, ?_⟩) ?_ ?_
    rotate_left
    ·intro w'
     go_simp
     with_reducible rfl
    rotate_left
    ·exact zV4
    refine pure_ (i := 3) (N := some 50) (v := ?_) (a' := ?_) zq4_15 rfl rfl (any_of HT_.out (by kernel_rfl)) (fun _ _ _ h => h) (Or.inl ⟨by rfl, ?_⟩) ?_ ?_
    rotate_left
    ·intro w'
     go_simp
     with_reducible rfl
    rotate_left
    ·exact zV4
    refine take_ (i := 0) (N := some 47) (v := ?_) (a' := ?_) zq4_16 rfl rfl (take_ofW HT_.out HW_.out (by kernel_rfl)) (fun _ _ _ h => h) (Or.inl ⟨by rfl, ?_⟩) hHeld ?_ ?_
    rotate_left
    ·rintro w' ⟨s0, s1, s2, s3, s4, s5, s6, s7, s8, s9, s10, s11, s12, s13⟩
     go_simp
     with_reducible rfl
    rotate_left
    ·exact zV4
    refine take_ (i := 1) (N := some 48) (v := ?_) (a' := ?_) zq4_17 rfl rfl (take_ofW HT_.out HW_.out (by kernel_rfl)) (fun _ _ _ h => h) (Or.inl ⟨by rfl, ?_⟩) hHeld ?_ ?_
    rotate_left
    ·rintro w' ⟨s0, s1, s2, s3, s4, s5, s6, s7, s8, s9, s10, s11, s12, s13⟩
     go_simp
     with_reducible rfl
    rotate_left
    ·exact zV4
    refine take_ (i := 4) (N := some 51) (v := ?_) (a' := ?_) zq4_18 rfl rfl (take_ofW HT_.out HW_.out (by kernel_rfl)) (fun _ _ _ h => h) (Or.inl ⟨by rfl, ?_⟩) hHeld ?_ ?_
    rotate_left
    ·rintro w' ⟨s0, s1, s2, s3, s4, s5, s6, s7, s8, s9, s10, s11, s12, s13⟩
     go_simp
     with_reducible rfl
    rotate_left
    ·exact zV4
    refine pure_ (i := 5) (N := some 52) (v := ?_) (a' := ?_) zq4_19 rfl rfl (any_of HT_.out (by kernel_rfl)) (fun _ _ _ h => h) (Or.inl ⟨by rfl, ?_⟩) ?_ ?_
    rotate_left
    ·intro w'
     go_simp
     with_reducible rfl
    rotate_left
    ·exact zV4
    refine take_ (i := 6) (N := some 53) (v := ?_) (a' := ?_) zq4_20 rfl rfl (take_ofW HT_.out HW_.out (by kernel_rfl)) (fun _ _ _ h => h) (Or.inl ⟨by rfl, ?_⟩) hHeld ?_ ?_
    rotate_left
    ·rintro w' ⟨s0, s1, s2, s3, s4, s5, s6, s7, s8, s9, s10, s11, s12, s13⟩
     go_simp
     with_reducible rfl
    rotate_left
    ·exact zV4
    refine one_ (i := 7) (N := some 54) zq4_21 rfl rfl (one_of HT_.out (by kernel_rfl)) (by decide) (fun K hK => ?_)
    refine goes_ Try.func79 (by kernel_rfl) rfl #[.agg #[.slice A1_0 l1_0.length c1_0, .int .i64 a1_1, .int .i64 a1_2], .agg #[.int .i64 t172, .int .i64 t173, .int .i64 t174, .int .i64 t175, .int .i64 t176], .int .i64 (rd l0 t179)] (by rfl) rfl rfl zT4 ?_
    with_reducible refine (spec_Work.calls kj3 _ _ l1_0 a1_1 a1_2 t172 t173 t174 t175 t176 (rd l0 t179) t182 t185 t186 t187 _ ?side1 ?side2 A50.out).mono ?_
    (case side1 => exact zC4 (Kd.C_below HR1_0.out HB.out))
    (case side2 => exact HC1_0.out)
    rintro e w75 ⟨v183, rfl, ho0, hb⟩
    refine ⟨_, rfl, ?_⟩
    have n0_ := Aside0.mk (Kd.R_lower ho0 (below_size (zB4_4)))
    have n1_ := Aside0.mk (zb4 BK167.out hb)
    have n2_ := Aside0.mk (zb4 BK168.out hb)
    have n3_ := Aside0.mk (zb4 BK178.out hb)
    have n4_ := Aside0.mk (zb4 BK180.out hb)
    have n5_ := Aside0.mk (below_step (zB4_4) hb)
    clear BK167 BK168 BK178 BK180 HB
    have HO184 := n0_
    have BK167 := n1_
    have BK168 := n2_
    have BK178 := n3_
    have BK180 := n4_
    have HB := n5_
    clear n0_ n1_ n2_ n3_ n4_ n5_
    (try clear hb)
    (try clear hb2)
    (try clear hk)
    (try clear hi)
    (try clear ho0)
    refine hK.out _ _ ⟨(blk_cell BK167.out 0).trans rfl, (blk_cell BK167.out 1).trans rfl, (blk_cell BK167.out 2).trans rfl, (blk_cell BK178.out 0).trans rfl, (blk_cell BK178.out 1).trans rfl, (blk_cell BK178.out 2).trans rfl, (blk_cell BK178.out 3).trans rfl, (blk_cell BK178.out 4).trans rfl, (blk_cell BK180.out 0).trans rfl, (blk_cell BK180.out 1).trans rfl, (blk_cell BK180.out 2).trans rfl, (blk_cell BK180.out 3).trans rfl, (blk_cell BK180.out 4).trans rfl, ((HB.out.cell (World.block_lt_of_cell? w _ hw181_0)).trans hw181_0)⟩ (fun hHeld => ?_)
    clear hK K
    refine norm_ (a' := ?_) ?_ ?_
    rotate_left
    ·show Act.put _ (some 54) _ = _
     simp only [Act.put, List.setIfInBounds_toArray, List.set_cons_zero, List.set_cons_succ, i64_w, i32_w]
     rfl
    refine pure_ (i := 8) (N := some 46) (v := ?_) (a' := ?_) zq4_22 rfl rfl (any_of HT_.out (by kernel_rfl)) (fun _ _ _ h => h) (Or.inl ⟨by rfl, ?_⟩) ?_ ?_
    rotate_left
    ·intro w'
     go_simp
     with_reducible rfl
    rotate_left
    ·exact zV4
    refine pure_ (i := 9) (N := some 55) (v := ?_) (a' := ?_) zq4_23 rfl rfl (any_of HT_.out (by kernel_rfl)) (fun _ _ _ h => h) (Or.inl ⟨by rfl, ?_⟩) ?_ ?_
    rotate_left
    ·intro w'
     go_simp
     with_reducible rfl
    rotate_left
    ·exact zV4
    refine pure_ (i := 10) (N := some 56) (v := ?_) (a' := ?_) zq4_24 rfl rfl (any_of HT_.out (by kernel_rfl)) (fun _ _ _ h => h) (Or.inl ⟨by rfl, ?_⟩) ?_ ?_
    rotate_left
    ·intro w'
     go_simp
     with_reducible rfl
    rotate_left
    ·exact zV4
    refine pure_ (i := 11) (N := some 57) (v := ?_) (a' := ?_) zq4_25 rfl rfl (any_of HT_.out (by kernel_rfl)) (fun _ _ _ h => h) (Or.inl ⟨by rfl, ?_⟩) ?_ ?_
    rotate_left
    ·intro w'
     go_simp
     with_reducible rfl
    rotate_left
    ·exact zV4
    refine last_ (i := 12) (N := none) zq4_26 rfl rfl (one_of HT_.out (by kernel_rfl)) (by decide) (fun K hK => ?_)
    have hs76 : w75.cell? ⟨gb180, 4, none⟩ = some (.int .i64 (-1)) := (blk_cell BK180.out 4).trans rfl
    have hfs76 := blk_frozen BK180.out 4
    have hns76_0 := NB167_180.out
    have hns76_1 := NB168_180.out
    have hns76_2 := NB178_180.out
    have hms76_0 := NB180_167.out
    have hms76_1 := NB180_168.out
    have hms76_2 := NB180_178.out
    refine skip_ (w1 := ?_) (by rfl) rfl ?_ ?_
    rotate_left
    ·go_simp
     rfl
    refine hK.out _ _ ?_
    clear hK K
    refine done_ (done_of HT_.out (by kernel_rfl)) ?_
    obtain ⟨hcz77_0, hcz77_1, hcz77_2, hcz77_3, hcz77_4, hfz77_0, hfz77_1, hfz77_2, hfz77_3, hfz77_4⟩ := zc4_5 (w := w75) BK178.out
    obtain ⟨hcz78_0, hcz78_1, hcz78_2, hcz78_3, hcz78_4, hfz78_0, hfz78_1, hfz78_2, hfz78_3, hfz78_4⟩ := zc4_5 (w := w75) BK180.out
    obtain ⟨hcz79_0, hcz79_1, hcz79_2, hcz79_3, hcz79_4, hfz79_0, hfz79_1, hfz79_2, hfz79_3, hfz79_4⟩ := zc4_5 (w := w75) BK168.out
    try go_wp2
    refine bodyPost_ret (results_ct rfl _ _ gb168 31 #[.int .i64 a2, .int .i64 a1_1, .int .i64 t179, .int .i64 (-1), .int .i64 t187] (0, 0) _ rfl (by refine zP4 ?_; refine blk_put (cs := #[.int .i64 a2, .int .i64 a1_1, .int .i64 t179, .int .i64 (-1), .int .i64 0]) ?_ 4 _ rfl; refine zP4 ?_; refine blk_put (cs := #[.int .i64 a2, .int .i64 a1_1, .int .i64 t179, .int .i64 0, .int .i64 0]) ?_ 3 _ rfl; refine zP4 ?_; refine blk_put (cs := #[.int .i64 a2, .int .i64 a1_1, .int .i64 0, .int .i64 0, .int .i64 0]) ?_ 2 _ rfl; refine zP4 ?_; refine blk_put (cs := #[.int .i64 a2, .int .i64 0, .int .i64 0, .int .i64 0, .int .i64 0]) ?_ 1 _ rfl; refine zP4 ?_; refine blk_put (cs := #[.int .i64 0, .int .i64 0, .int .i64 0, .int .i64 0, .int .i64 0]) ?_ 0 _ rfl; refine zP4 ?_; refine blk_far ?_ NB168_180.out _; refine zP4 ?_; exact BK168.out) Try.underlying31 rfl (by kernel_rfl)) rfl ?_
    exact ⟨zE4, zB4_4⟩
   rw [if_neg c51] at H
   have c51b0 : (t172 == 5) = false := beq_eq_false_iff_ne.mpr c51
   have c51b1 : (t172 != 5) = true := bne_iff_ne.mpr c51
   simp only [Option.some.injEq, Prod.mk.injEq] at H
   obtain ⟨rfl, rfl, rfl, rfl, rfl, rfl⟩ := H
   have hnb80 := NB167_168.out
   have hnc80 := NB168_167.out
   obtain ⟨hcz81_0, hcz81_1, hcz81_2, hfz81_0, hfz81_1, hfz81_2⟩ := zc4_3 (w := wc) BK167.out
   have p171 : 0 ≤ (a1_1 : Int) := zA4
   have q171 : a1_1 < (l0.length : Int) := zA4
   obtain ⟨ad171, e171, hx171_0⟩ := Kd.at_int HR0.out a1_1 p171 q171
   cases e171
   replace hx171_0 := (HB.out.cell (World.block_lt_of_cell? w _ hx171_0)).trans hx171_0
   replace p171 := eq_true p171
   replace q171 := eq_true q171
   try go_wp2_with (first | ((with_reducible refine gate_callee (f := 77) rfl ?_); refine goesL_ (some 31) rfl rfl Try.func77 (by kernel_rfl) rfl #[.int .i64 (rd l0 a1_1)] rfl zT4 ?_; (with_reducible refine (spec_Decode.calls (rd l0 a1_1) t172 t173 t174 t175 t176 t177 _ A23.out).mono ?_); rintro e w82 ⟨rfl, hb⟩; refine ⟨_, rfl, ?_⟩; have n0_ := Aside0.mk (zb4 BK167.out hb); have n1_ := Aside0.mk (zb4 BK168.out hb); have n2_ := Aside0.mk (below_step (zB4_2) hb); clear BK167; clear BK168; clear HB; have BK167 := n0_; have BK168 := n1_; have HB := n2_; clear n0_ n1_ n2_; (try clear hb); (try clear hb2); (try clear hk); (try clear hi)) | ((with_reducible refine gate_dst (N := 8) rfl ?_); refine box_event ?hg (N := 8) ?hd (cs := #[.int .i64 0, .int .i64 0, .int .i64 0, .int .i64 0, .int .i64 0]) (t := 71) ?hr ?_; (case hd => rfl); (case hg => rfl); (case hr => first | (go_simp; done) | (go_simp; rfl)); intro gb178 hg w83 hbox hb; have n0_ := Aside0.mk (zb4 BK167.out hb); have n1_ := Aside0.mk (zb4 BK168.out hb); have n2_ := Aside0.mk (below_step (zB4_2) hb); have n3_ := Aside0.mk (hbox); have n4_ := Aside0.mk ((by rw [hg]; exact (below_size (zB4_2)) : w.heap.size ≤ gb178)); have n5_ := Aside0.mk ((by rw [hg]; exact (below_size (zB4_2)) : w.heap.size ≤ gb178)); have n6_ := Aside0.mk ((zn4 BK167.out hg : gb167 ≠ gb178)); have n7_ := Aside0.mk ((zm4 BK167.out hg : gb178 ≠ gb167)); have n8_ := Aside0.mk ((zn4 BK168.out hg : gb168 ≠ gb178)); have n9_ := Aside0.mk ((zm4 BK168.out hg : gb178 ≠ gb168)); clear BK167; clear BK168; clear HB; have BK167 := n0_; have BK168 := n1_; have HB := n2_; have BK178 := n3_; have GW178 := n4_; have GE178 := n5_; have NB167_178 := n6_; have NB178_167 := n7_; have NB168_178 := n8_; have NB178_168 := n9_; clear n0_ n1_ n2_ n3_ n4_ n5_ n6_ n7_ n8_ n9_; clear hb hbox hg; have hnb84 := NB178_167.out; have hnc84 := NB167_178.out; have hnb85 := NB178_168.out; have hnc85 := NB168_178.out; obtain ⟨hcz86_0, hcz86_1, hcz86_2, hcz86_3, hcz86_4, hfz86_0, hfz86_1, hfz86_2, hfz86_3, hfz86_4⟩ := zc4_5 (w := w83) BK178.out))
   have n0_ : Aside0 ((((((w83.setCell ⟨gb178, 0, none⟩ (.int .i64 t172)).setCell ⟨gb178, 1, none⟩ (.int .i64 t173)).setCell ⟨gb178, 2, none⟩ (.int .i64 t174)).setCell ⟨gb178, 3, none⟩ (.int .i64 t175)).setCell ⟨gb178, 4, none⟩ (.int .i64 t176)).heap[gb167]? = some (.cells #[.slice A1_0 l1_0.length c1_0, .int .i64 a1_1, .int .i64 a1_2] 49 (0, 0))) := ⟨by refine zP4 ?_; refine blk_far ?_ NB167_178.out _; refine zP4 ?_; refine blk_far ?_ NB167_178.out _; refine zP4 ?_; refine blk_far ?_ NB167_178.out _; refine zP4 ?_; refine blk_far ?_ NB167_178.out _; refine zP4 ?_; refine blk_far ?_ NB167_178.out _; refine zP4 ?_; exact BK167.out⟩
   have n1_ : Aside0 ((((((w83.setCell ⟨gb178, 0, none⟩ (.int .i64 t172)).setCell ⟨gb178, 1, none⟩ (.int .i64 t173)).setCell ⟨gb178, 2, none⟩ (.int .i64 t174)).setCell ⟨gb178, 3, none⟩ (.int .i64 t175)).setCell ⟨gb178, 4, none⟩ (.int .i64 t176)).heap[gb168]? = some (.cells #[.int .i64 0, .int .i64 0, .int .i64 0, .int .i64 0, .int .i64 0] 31 (0, 0))) := ⟨by refine zP4 ?_; refine blk_far ?_ NB168_178.out _; refine zP4 ?_; refine blk_far ?_ NB168_178.out _; refine zP4 ?_; refine blk_far ?_ NB168_178.out _; refine zP4 ?_; refine blk_far ?_ NB168_178.out _; refine zP4 ?_; refine blk_far ?_ NB168_178.out _; refine zP4 ?_; exact BK168.out⟩
   have n2_ : Aside0 ((((((w83.setCell ⟨gb178, 0, none⟩ (.int .i64 t172)).setCell ⟨gb178, 1, none⟩ (.int .i64 t173)).setCell ⟨gb178, 2, none⟩ (.int .i64 t174)).setCell ⟨gb178, 3, none⟩ (.int .i64 t175)).setCell ⟨gb178, 4, none⟩ (.int .i64 t176)).heap[gb178]? = some (.cells #[.int .i64 t172, .int .i64 t173, .int .i64 t174, .int .i64 t175, .int .i64 t176] 71 (0, 0))) := ⟨by refine zP4 ?_; refine blk_put (cs := #[.int .i64 t172, .int .i64 t173, .int .i64 t174, .int .i64 t175, .int .i64 0]) ?_ 4 _ rfl; refine zP4 ?_; refine blk_put (cs := #[.int .i64 t172, .int .i64 t173, .int .i64 t174, .int .i64 0, .int .i64 0]) ?_ 3 _ rfl; refine zP4 ?_; refine blk_put (cs := #[.int .i64 t172, .int .i64 t173, .int .i64 0, .int .i64 0, .int .i64 0]) ?_ 2 _ rfl; refine zP4 ?_; refine blk_put (cs := #[.int .i64 t172, .int .i64 0, .int .i64 0, .int .i64 0, .int .i64 0]) ?_ 1 _ rfl; refine zP4 ?_; refine blk_put (cs := #[.int .i64 0, .int .i64 0, .int .i64 0, .int .i64 0, .int .i64 0]) ?_ 0 _ rfl; refine zP4 ?_; exact BK178.out⟩
   have n3_ : Aside0 (Below w.heap.size w (((((w83.setCell ⟨gb178, 0, none⟩ (.int .i64 t172)).setCell ⟨gb178, 1, none⟩ (.int .i64 t173)).setCell ⟨gb178, 2, none⟩ (.int .i64 t174)).setCell ⟨gb178, 3, none⟩ (.int .i64 t175)).setCell ⟨gb178, 4, none⟩ (.int .i64 t176))) := ⟨zB4_3⟩
   (try clear BK167)
   (try clear BK168)
   (try clear BK178)
   (try clear HB)
   generalize (((((w83.setCell ⟨gb178, 0, none⟩ (.int .i64 t172)).setCell ⟨gb178, 1, none⟩ (.int .i64 t173)).setCell ⟨gb178, 2, none⟩ (.int .i64 t174)).setCell ⟨gb178, 3, none⟩ (.int .i64 t175)).setCell ⟨gb178, 4, none⟩ (.int .i64 t176)) = w87 at n0_ n1_ n2_ n3_ ⊢
   have BK167 := n0_
   have BK168 := n1_
   have BK178 := n2_
   have HB := n3_
   clear n0_ n1_ n2_ n3_
   have n0_ := Aside0.mk (blk_drew BK167.out)
   have n1_ := Aside0.mk (blk_drew BK168.out)
   have n2_ := Aside0.mk (blk_drew BK178.out)
   have n3_ := Aside0.mk (below_drew1 HB.out)
   clear BK167 BK168 BK178 HB
   have BK167 := n0_
   have BK168 := n1_
   have BK178 := n2_
   have HB := n3_
   clear n0_ n1_ n2_ n3_
   refine start_ (n := 10) (S := fun w' => w'.cell? ⟨gb167, 0, none⟩ = some (.slice A1_0 l1_0.length c1_0) ∧ w'.cell? ⟨gb167, 1, none⟩ = some (.int .i64 a1_1) ∧ w'.cell? ⟨gb167, 2, none⟩ = some (.int .i64 a1_2) ∧ w'.cell? ⟨gb178, 0, none⟩ = some (.int .i64 t172) ∧ w'.cell? ⟨gb178, 1, none⟩ = some (.int .i64 t173) ∧ w'.cell? ⟨gb178, 2, none⟩ = some (.int .i64 t174) ∧ w'.cell? ⟨gb178, 3, none⟩ = some (.int .i64 t175) ∧ w'.cell? ⟨gb178, 4, none⟩ = some (.int .i64 t176)) (ds := []) zq4_0 (by kernel_rfl) rfl rfl ⟨(blk_cell BK167.out 0).trans rfl, (blk_cell BK167.out 1).trans rfl, (blk_cell BK167.out 2).trans rfl, (blk_cell BK178.out 0).trans rfl, (blk_cell BK178.out 1).trans rfl, (blk_cell BK178.out 2).trans rfl, (blk_cell BK178.out 3).trans rfl, (blk_cell BK178.out 4).trans rfl⟩ (fun hHeld => ?_); refine with_tabW spec_EventOf.tab4 spec_EventOf.bits4 (fun HT_ HW_ => ?_)
   generalize w87.drew = w88 at BK167 BK168 BK178 HB hHeld ⊢
   refine pure_ (i := 0) (N := some 34) (v := ?_) (a' := ?_) zq4_1 rfl rfl (any_of HT_.out (by kernel_rfl)) (fun _ _ _ h => h) (Or.inl ⟨by rfl, ?_⟩) ?_ ?_
   rotate_left
   ·intro w'
    go_simp
    with_reducible rfl
   rotate_left
   ·exact zV4
   refine pure_ (i := 1) (N := some 35) (v := ?_) (a' := ?_) zq4_2 rfl rfl (any_of HT_.out (by kernel_rfl)) (fun _ _ _ h => h) (Or.inl ⟨by rfl, ?_⟩) ?_ ?_
   rotate_left
   ·intro w'
    go_simp
    with_reducible rfl
   rotate_left
   ·exact zV4
   refine pure_ (i := 4) (N := some 38) (v := ?_) (a' := ?_) zq4_3 rfl rfl (any_of HT_.out (by kernel_rfl)) (fun _ _ _ h => h) (Or.inl ⟨by rfl, ?_⟩) ?_ ?_
   rotate_left
   ·intro w'
    go_simp
    with_reducible rfl
   rotate_left
   ·exact zV4
   refine take_ (i := 2) (N := some 36) (v := ?_) (a' := ?_) zq4_4 rfl rfl (take_ofW HT_.out HW_.out (by kernel_rfl)) (fun _ _ _ h => h) (Or.inl ⟨by rfl, ?_⟩) hHeld ?_ ?_
   rotate_left
   ·rintro w' ⟨s0, s1, s2, s3, s4, s5, s6, s7⟩
    go_simp
    with_reducible rfl
   rotate_left
   ·exact zV4
   refine take_ (i := 3) (N := some 37) (v := ?_) (a' := ?_) zq4_5 rfl rfl (take_ofW HT_.out HW_.out (by kernel_rfl)) (fun _ _ _ h => h) (Or.inl ⟨by rfl, ?_⟩) hHeld ?_ ?_
   rotate_left
   ·rintro w' ⟨s0, s1, s2, s3, s4, s5, s6, s7⟩
    go_simp
    with_reducible rfl
   rotate_left
   ·exact zV4
   refine take_ (i := 5) (N := some 39) (v := ?_) (a' := ?_) zq4_6 rfl rfl (take_ofW HT_.out HW_.out (by kernel_rfl)) (fun _ _ _ h => h) (Or.inl ⟨by rfl, ?_⟩) hHeld ?_ ?_
   rotate_left
   ·rintro w' ⟨s0, s1, s2, s3, s4, s5, s6, s7⟩
    go_simp
    with_reducible rfl
   rotate_left
   ·exact zV4
   refine join_ (σ := Nat) 1 zq4_7 (fun s_ => [(40, .int .i64 t179), (10, .pointer (some ⟨s_, 0, none⟩)), (41, .agg #[.int .i64 a2, .int .i64 a1_1, .int .i64 t179, .int .i64 (-1), .int .i64 (-1)])]) (fun s_ w' => (w'.cell? ⟨gb167, 0, none⟩ = some (.slice A1_0 l1_0.length c1_0) ∧ w'.cell? ⟨gb167, 1, none⟩ = some (.int .i64 a1_1) ∧ w'.cell? ⟨gb167, 2, none⟩ = some (.int .i64 a1_2) ∧ w'.cell? ⟨gb178, 0, none⟩ = some (.int .i64 t172) ∧ w'.cell? ⟨gb178, 1, none⟩ = some (.int .i64 t173) ∧ w'.cell? ⟨gb178, 2, none⟩ = some (.int .i64 t174) ∧ w'.cell? ⟨gb178, 3, none⟩ = some (.int .i64 t175) ∧ w'.cell? ⟨gb178, 4, none⟩ = some (.int .i64 t176)) ∧ (w'.heap[gb167]? = some (.cells #[.slice A1_0 l1_0.length c1_0, .int .i64 a1_1, .int .i64 a1_2] 49 (0, 0))) ∧ (w'.heap[gb168]? = some (.cells #[.int .i64 0, .int .i64 0, .int .i64 0, .int .i64 0, .int .i64 0] 31 (0, 0))) ∧ (w'.heap[gb178]? = some (.cells #[.int .i64 t172, .int .i64 t173, .int .i64 t174, .int .i64 t175, .int .i64 t176] 71 (0, 0))) ∧ (w'.heap[s_]? = some (.cells #[.int .i64 0, .int .i64 0, .int .i64 0, .int .i64 0, .int .i64 0] 31 (0, 0))) ∧ (w.heap.size ≤ s_) ∧ (w.heap.size ≤ s_) ∧ (gb167 ≠ s_) ∧ (s_ ≠ gb167) ∧ (gb168 ≠ s_) ∧ (s_ ≠ gb168) ∧ (gb178 ≠ s_) ∧ (s_ ≠ gb178) ∧ (Below w.heap.size w w')) ?_ ?_
   rotate_left
   ·intro hCont
    refine two_ (i := 6) (j := 8) (Ni := some 40) (Nj := some 10) zq4_8 zq4_9 rfl rfl rfl rfl (two_of HT_.out (by kernel_rfl)) (by decide) (by decide) (fun K hK => ?_) (fun K hK => ?_)
    ·skip
     refine goes_ Try.func78 (by kernel_rfl) rfl #[.agg #[.int .i64 t172, .int .i64 t173, .int .i64 t174, .int .i64 t175, .int .i64 t176], .slice A1_0 l1_0.length c1_0] (by rfl) rfl rfl zT4 ?_
     with_reducible refine (spec_Target.calls t172 t173 t174 t175 t176 _ _ l1_0 t179 _ ?side1 ?side2 A24.out).mono ?_
     (case side1 => exact zC4 (Kd.C_below HR1_0.out HB.out))
     (case side2 => exact HC1_0.out)
     rintro e w89 ⟨rfl, hb⟩
     refine ⟨_, rfl, ?_⟩
     have n0_ := Aside0.mk (zb4 BK167.out hb)
     have n1_ := Aside0.mk (zb4 BK168.out hb)
     have n2_ := Aside0.mk (zb4 BK178.out hb)
     have n3_ := Aside0.mk (below_step (zB4_3) hb)
     clear BK167 BK168 BK178 HB
     have BK167 := n0_
     have BK168 := n1_
     have BK178 := n2_
     have HB := n3_
     clear n0_ n1_ n2_ n3_
     (try clear hb)
     (try clear hb2)
     (try clear hk)
     (try clear hi)
     refine hK.out _ _ ⟨(blk_cell BK167.out 0).trans rfl, (blk_cell BK167.out 1).trans rfl, (blk_cell BK167.out 2).trans rfl, (blk_cell BK178.out 0).trans rfl, (blk_cell BK178.out 1).trans rfl, (blk_cell BK178.out 2).trans rfl, (blk_cell BK178.out 3).trans rfl, (blk_cell BK178.out 4).trans rfl⟩ (fun hHeld => ?_)
     clear hK K
     refine norm_ (a' := ?_) ?_ ?_
     rotate_left
     ·show Act.put _ (some 40) _ = _
      simp only [Act.put, List.setIfInBounds_toArray, List.set_cons_zero, List.set_cons_succ, i64_w, i32_w]
      rfl
     refine pure_ (i := 7) (N := some 41) (v := ?_) (a' := ?_) zq4_10 rfl rfl (any_of HT_.out (by kernel_rfl)) (fun _ _ _ h => h) (Or.inl ⟨by rfl, ?_⟩) ?_ ?_
     rotate_left
     ·intro w'
      go_simp
      with_reducible rfl
     rotate_left
     ·exact zV4
     refine one_ (i := 8) (N := some 10) zq4_7 rfl rfl (one_of HT_.out (by kernel_rfl)) (by decide) (fun K hK => ?_)
     refine box_step ?hg (N := 10) ?hd (cs := #[.int .i64 0, .int .i64 0, .int .i64 0, .int .i64 0, .int .i64 0]) (t := 31) ?hr ?_; (case hd => rfl); (case hg => rfl); (case hr => first | (go_simp; done) | (go_simp; rfl))
     intro gb180 hg w90 hbox hb
     have n0_ := Aside0.mk (zb4 BK167.out hb)
     have n1_ := Aside0.mk (zb4 BK168.out hb)
     have n2_ := Aside0.mk (zb4 BK178.out hb)
     have n3_ := Aside0.mk (below_step (zB4_3) hb)
     have n4_ := Aside0.mk (hbox)
     have n5_ := Aside0.mk ((by rw [hg]; exact (below_size (zB4_3)) : w.heap.size ≤ gb180))
     have n6_ := Aside0.mk ((by rw [hg]; exact (below_size (zB4_3)) : w.heap.size ≤ gb180))
     have n7_ := Aside0.mk ((zn4 BK167.out hg : gb167 ≠ gb180))
     have n8_ := Aside0.mk ((zm4 BK167.out hg : gb180 ≠ gb167))
     have n9_ := Aside0.mk ((zn4 BK168.out hg : gb168 ≠ gb180))
     have n10_ := Aside0.mk ((zm4 BK168.out hg : gb180 ≠ gb168))
     have n11_ := Aside0.mk ((zn4 BK178.out hg : gb178 ≠ gb180))
     have n12_ := Aside0.mk ((zm4 BK178.out hg : gb180 ≠ gb178))
     clear BK167 BK168 BK178 HB
     have BK167 := n0_
     have BK168 := n1_
     have BK178 := n2_
     have HB := n3_
     have BK180 := n4_
     have GW180 := n5_
     have GE180 := n6_
     have NB167_180 := n7_
     have NB180_167 := n8_
     have NB168_180 := n9_
     have NB180_168 := n10_
     have NB178_180 := n11_
     have NB180_178 := n12_
     clear n0_ n1_ n2_ n3_ n4_ n5_ n6_ n7_ n8_ n9_ n10_ n11_ n12_ hb hbox hg
     refine hK.out _ _ ⟨(blk_cell BK167.out 0).trans rfl, (blk_cell BK167.out 1).trans rfl, (blk_cell BK167.out 2).trans rfl, (blk_cell BK178.out 0).trans rfl, (blk_cell BK178.out 1).trans rfl, (blk_cell BK178.out 2).trans rfl, (blk_cell BK178.out 3).trans rfl, (blk_cell BK178.out 4).trans rfl⟩ (fun hHeld => ?_)
     clear hK K
     refine norm_ (a' := ?_) ?_ ?_
     rotate_left
     ·show Act.put _ (some 10) _ = _
      simp only [Act.put, List.setIfInBounds_toArray, List.set_cons_zero, List.set_cons_succ, i64_w, i32_w]
      rfl
     exact norm_ (by simp only [putAll, Act.put, List.setIfInBounds_toArray, List.set_cons_zero, List.set_cons_succ]) (hCont (gb180) _ ⟨hHeld, (zK4 BK167.out), (zK4 BK168.out), (zK4 BK178.out), (zK4 BK180.out), GW180.out, GE180.out, NB167_180.out, NB180_167.out, NB168_180.out, NB180_168.out, NB178_180.out, NB180_178.out, (zB4_4)⟩)
    ·skip
     refine box_step ?hg (N := 10) ?hd (cs := #[.int .i64 0, .int .i64 0, .int .i64 0, .int .i64 0, .int .i64 0]) (t := 31) ?hr ?_; (case hd => rfl); (case hg => rfl); (case hr => first | (go_simp; done) | (go_simp; rfl))
     intro gb180 hg w89 hbox hb
     have n0_ := Aside0.mk (zb4 BK167.out hb)
     have n1_ := Aside0.mk (zb4 BK168.out hb)
     have n2_ := Aside0.mk (zb4 BK178.out hb)
     have n3_ := Aside0.mk (below_step (zB4_3) hb)
     have n4_ := Aside0.mk (hbox)
     have n5_ := Aside0.mk ((by rw [hg]; exact (below_size (zB4_3)) : w.heap.size ≤ gb180))
     have n6_ := Aside0.mk ((by rw [hg]; exact (below_size (zB4_3)) : w.heap.size ≤ gb180))
     have n7_ := Aside0.mk ((zn4 BK167.out hg : gb167 ≠ gb180))
     have n8_ := Aside0.mk ((zm4 BK167.out hg : gb180 ≠ gb167))
     have n9_ := Aside0.mk ((zn4 BK168.out hg : gb168 ≠ gb180))
     have n10_ := Aside0.mk ((zm4 BK168.out hg : gb180 ≠ gb168))
     have n11_ := Aside0.mk ((zn4 BK178.out hg : gb178 ≠ gb180))
     have n12_ := Aside0.mk ((zm4 BK178.out hg : gb180 ≠ gb178))
     clear BK167 BK168 BK178 HB
     have BK167 := n0_
     have BK168 := n1_
     have BK178 := n2_
     have HB := n3_
     have BK180 := n4_
     have GW180 := n5_
     have GE180 := n6_
     have NB167_180 := n7_
     have NB180_167 := n8_
     have NB168_180 := n9_
     have NB180_168 := n10_
     have NB178_180 := n11_
     have NB180_178 := n12_
     clear n0_ n1_ n2_ n3_ n4_ n5_ n6_ n7_ n8_ n9_ n10_ n11_ n12_ hb hbox hg
     refine hK.out _ _ ⟨(blk_cell BK167.out 0).trans rfl, (blk_cell BK167.out 1).trans rfl, (blk_cell BK167.out 2).trans rfl, (blk_cell BK178.out 0).trans rfl, (blk_cell BK178.out 1).trans rfl, (blk_cell BK178.out 2).trans rfl, (blk_cell BK178.out 3).trans rfl, (blk_cell BK178.out 4).trans rfl⟩ (fun hHeld => ?_)
     clear hK K
     refine norm_ (a' := ?_) ?_ ?_
     rotate_left
     ·show Act.put _ (some 10) _ = _
      simp only [Act.put, List.setIfInBounds_toArray, List.set_cons_zero, List.set_cons_succ, i64_w, i32_w]
      rfl
     refine one_ (i := 6) (N := some 40) zq4_11 rfl rfl (one_of HT_.out (by kernel_rfl)) (by decide) (fun K hK => ?_)
     refine goes_ Try.func78 (by kernel_rfl) rfl #[.agg #[.int .i64 t172, .int .i64 t173, .int .i64 t174, .int .i64 t175, .int .i64 t176], .slice A1_0 l1_0.length c1_0] (by rfl) rfl rfl zT4 ?_
     with_reducible refine (spec_Target.calls t172 t173 t174 t175 t176 _ _ l1_0 t179 _ ?side1 ?side2 A24.out).mono ?_
     (case side1 => exact zC4 (Kd.C_below HR1_0.out HB.out))
     (case side2 => exact HC1_0.out)
     rintro e w90 ⟨rfl, hb⟩
     refine ⟨_, rfl, ?_⟩
     have n0_ := Aside0.mk (zb4 BK167.out hb)
     have n1_ := Aside0.mk (zb4 BK168.out hb)
     have n2_ := Aside0.mk (zb4 BK178.out hb)
     have n3_ := Aside0.mk (zb4 BK180.out hb)
     have n4_ := Aside0.mk (below_step (zB4_4) hb)
     clear BK167 BK168 BK178 BK180 HB
     have BK167 := n0_
     have BK168 := n1_
     have BK178 := n2_
     have BK180 := n3_
     have HB := n4_
     clear n0_ n1_ n2_ n3_ n4_
     (try clear hb)
     (try clear hb2)
     (try clear hk)
     (try clear hi)
     refine hK.out _ _ ⟨(blk_cell BK167.out 0).trans rfl, (blk_cell BK167.out 1).trans rfl, (blk_cell BK167.out 2).trans rfl, (blk_cell BK178.out 0).trans rfl, (blk_cell BK178.out 1).trans rfl, (blk_cell BK178.out 2).trans rfl, (blk_cell BK178.out 3).trans rfl, (blk_cell BK178.out 4).trans rfl⟩ (fun hHeld => ?_)
     clear hK K
     refine norm_ (a' := ?_) ?_ ?_
     rotate_left
     ·show Act.put _ (some 40) _ = _
      simp only [Act.put, List.setIfInBounds_toArray, List.set_cons_zero, List.set_cons_succ, i64_w, i32_w]
      rfl
     refine pure_ (i := 7) (N := some 41) (v := ?_) (a' := ?_) zq4_7 rfl rfl (any_of HT_.out (by kernel_rfl)) (fun _ _ _ h => h) (Or.inl ⟨by rfl, ?_⟩) ?_ ?_
     rotate_left
     ·intro w'
      go_simp
      with_reducible rfl
     rotate_left
     ·exact zV4
     exact norm_ (by simp only [putAll, Act.put, List.setIfInBounds_toArray, List.set_cons_zero, List.set_cons_succ]) (hCont (gb180) _ ⟨hHeld, (zK4 BK167.out), (zK4 BK168.out), (zK4 BK178.out), (zK4 BK180.out), GW180.out, GE180.out, NB167_180.out, NB180_167.out, NB168_180.out, NB180_168.out, NB178_180.out, NB180_178.out, (zB4_4)⟩)
   rintro gb180 w91 ⟨hS_, h0_, h1_, h2_, h3_, h4_, h5_, h6_, h7_, h8_, h9_, h10_, h11_, h12_⟩
   have n0_ : Aside0 (w91.heap[gb167]? = some (.cells #[.slice A1_0 l1_0.length c1_0, .int .i64 a1_1, .int .i64 a1_2] 49 (0, 0))) := ⟨h0_⟩
   have n1_ : Aside0 (w91.heap[gb168]? = some (.cells #[.int .i64 0, .int .i64 0, .int .i64 0, .int .i64 0, .int .i64 0] 31 (0, 0))) := ⟨h1_⟩
   have n2_ : Aside0 (w91.heap[gb178]? = some (.cells #[.int .i64 t172, .int .i64 t173, .int .i64 t174, .int .i64 t175, .int .i64 t176] 71 (0, 0))) := ⟨h2_⟩
   have n3_ : Aside0 (w91.heap[gb180]? = some (.cells #[.int .i64 0, .int .i64 0, .int .i64 0, .int .i64 0, .int .i64 0] 31 (0, 0))) := ⟨h3_⟩
   have n4_ : Aside0 (w.heap.size ≤ gb180) := ⟨h4_⟩
   have n5_ : Aside0 (w.heap.size ≤ gb180) := ⟨h5_⟩
   have n6_ : Aside0 (gb167 ≠ gb180) := ⟨h6_⟩
   have n7_ : Aside0 (gb180 ≠ gb167) := ⟨h7_⟩
   have n8_ : Aside0 (gb168 ≠ gb180) := ⟨h8_⟩
   have n9_ : Aside0 (gb180 ≠ gb168) := ⟨h9_⟩
   have n10_ : Aside0 (gb178 ≠ gb180) := ⟨h10_⟩
   have n11_ : Aside0 (gb180 ≠ gb178) := ⟨h11_⟩
   have n12_ : Aside0 (Below w.heap.size w w91) := ⟨h12_⟩
   clear BK167 BK168 BK178 HB h0_ h1_ h2_ h3_ h4_ h5_ h6_ h7_ h8_ h9_ h10_ h11_ h12_
   have BK167 := n0_
   have BK168 := n1_
   have BK178 := n2_
   have BK180 := n3_
   have GW180 := n4_
   have GE180 := n5_
   have NB167_180 := n6_
   have NB180_167 := n7_
   have NB168_180 := n8_
   have NB180_168 := n9_
   have NB178_180 := n10_
   have NB180_178 := n11_
   have HB := n12_
   clear n0_ n1_ n2_ n3_ n4_ n5_ n6_ n7_ n8_ n9_ n10_ n11_ n12_
   have hHeld : w91.cell? ⟨gb167, 0, none⟩ = some (.slice A1_0 l1_0.length c1_0) ∧ w91.cell? ⟨gb167, 1, none⟩ = some (.int .i64 a1_1) ∧ w91.cell? ⟨gb167, 2, none⟩ = some (.int .i64 a1_2) ∧ w91.cell? ⟨gb178, 0, none⟩ = some (.int .i64 t172) ∧ w91.cell? ⟨gb178, 1, none⟩ = some (.int .i64 t173) ∧ w91.cell? ⟨gb178, 2, none⟩ = some (.int .i64 t174) ∧ w91.cell? ⟨gb178, 3, none⟩ = some (.int .i64 t175) ∧ w91.cell? ⟨gb178, 4, none⟩ = some (.int .i64 t176) := hS_
   refine norm_ (a' := ?_) ?_ ?_
   rotate_left
   ·simp only [putAll, Act.put, List.setIfInBounds_toArray, List.set_cons_zero, List.set_cons_succ]
    rfl
   refine one_ (i := 9) (N := none) zq4_12 rfl rfl (one_of HT_.out (by kernel_rfl)) (by decide) (fun K hK => ?_)
   have hs92 : w91.cell? ⟨gb180, 0, none⟩ = some (.int .i64 0) := (blk_cell BK180.out 0).trans rfl
   have hfs92 := blk_frozen BK180.out 0
   have hns92_0 := NB167_180.out
   have hns92_1 := NB168_180.out
   have hns92_2 := NB178_180.out
   have hms92_0 := NB180_167.out
   have hms92_1 := NB180_168.out
   have hms92_2 := NB180_178.out
   have hs93 : w91.cell? ⟨gb180, 1, none⟩ = some (.int .i64 0) := (blk_cell BK180.out 1).trans rfl
   have hfs93 := blk_frozen BK180.out 1
   have hns93_0 := NB167_180.out
   have hns93_1 := NB168_180.out
   have hns93_2 := NB178_180.out
   have hms93_0 := NB180_167.out
   have hms93_1 := NB180_168.out
   have hms93_2 := NB180_178.out
   have hs94 : w91.cell? ⟨gb180, 2, none⟩ = some (.int .i64 0) := (blk_cell BK180.out 2).trans rfl
   have hfs94 := blk_frozen BK180.out 2
   have hns94_0 := NB167_180.out
   have hns94_1 := NB168_180.out
   have hns94_2 := NB178_180.out
   have hms94_0 := NB180_167.out
   have hms94_1 := NB180_168.out
   have hms94_2 := NB180_178.out
   have hs95 : w91.cell? ⟨gb180, 3, none⟩ = some (.int .i64 0) := (blk_cell BK180.out 3).trans rfl
   have hfs95 := blk_frozen BK180.out 3
   have hns95_0 := NB167_180.out
   have hns95_1 := NB168_180.out
   have hns95_2 := NB178_180.out
   have hms95_0 := NB180_167.out
   have hms95_1 := NB180_168.out
   have hms95_2 := NB180_178.out
   have hs96 : w91.cell? ⟨gb180, 4, none⟩ = some (.int .i64 0) := (blk_cell BK180.out 4).trans rfl
   have hfs96 := blk_frozen BK180.out 4
   have hns96_0 := NB167_180.out
   have hns96_1 := NB168_180.out
   have hns96_2 := NB178_180.out
   have hms96_0 := NB180_167.out
   have hms96_1 := NB180_168.out
   have hms96_2 := NB180_178.out
   refine skip_ (w1 := ?_) (by rfl) rfl ?_ ?_
   rotate_left
   ·go_simp
    rfl
   refine hK.out _ _ ⟨((cell_far (p := ⟨gb180, _, none⟩) NB167_180.out _).trans (((cell_far (p := ⟨gb180, _, none⟩) NB167_180.out _).trans (((cell_far (p := ⟨gb180, _, none⟩) NB167_180.out _).trans (((cell_far (p := ⟨gb180, _, none⟩) NB167_180.out _).trans (((cell_far (p := ⟨gb180, _, none⟩) NB167_180.out _).trans (hHeld.1)))))))))), ((cell_far (p := ⟨gb180, _, none⟩) NB167_180.out _).trans (((cell_far (p := ⟨gb180, _, none⟩) NB167_180.out _).trans (((cell_far (p := ⟨gb180, _, none⟩) NB167_180.out _).trans (((cell_far (p := ⟨gb180, _, none⟩) NB167_180.out _).trans (((cell_far (p := ⟨gb180, _, none⟩) NB167_180.out _).trans (hHeld.2.1)))))))))), ((cell_far (p := ⟨gb180, _, none⟩) NB167_180.out _).trans (((cell_far (p := ⟨gb180, _, none⟩) NB167_180.out _).trans (((cell_far (p := ⟨gb180, _, none⟩) NB167_180.out _).trans (((cell_far (p := ⟨gb180, _, none⟩) NB167_180.out _).trans (((cell_far (p := ⟨gb180, _, none⟩) NB167_180.out _).trans (hHeld.2.2.1)))))))))), ((cell_far (p := ⟨gb180, _, none⟩) NB178_180.out _).trans (((cell_far (p := ⟨gb180, _, none⟩) NB178_180.out _).trans (((cell_far (p := ⟨gb180, _, none⟩) NB178_180.out _).trans (((cell_far (p := ⟨gb180, _, none⟩) NB178_180.out _).trans (((cell_far (p := ⟨gb180, _, none⟩) NB178_180.out _).trans (hHeld.2.2.2.1)))))))))), ((cell_far (p := ⟨gb180, _, none⟩) NB178_180.out _).trans (((cell_far (p := ⟨gb180, _, none⟩) NB178_180.out _).trans (((cell_far (p := ⟨gb180, _, none⟩) NB178_180.out _).trans (((cell_far (p := ⟨gb180, _, none⟩) NB178_180.out _).trans (((cell_far (p := ⟨gb180, _, none⟩) NB178_180.out _).trans (hHeld.2.2.2.2.1)))))))))), ((cell_far (p := ⟨gb180, _, none⟩) NB178_180.out _).trans (((cell_far (p := ⟨gb180, _, none⟩) NB178_180.out _).trans (((cell_far (p := ⟨gb180, _, none⟩) NB178_180.out _).trans (((cell_far (p := ⟨gb180, _, none⟩) NB178_180.out _).trans (((cell_far (p := ⟨gb180, _, none⟩) NB178_180.out _).trans (hHeld.2.2.2.2.2.1)))))))))), ((cell_far (p := ⟨gb180, _, none⟩) NB178_180.out _).trans (((cell_far (p := ⟨gb180, _, none⟩) NB178_180.out _).trans (((cell_far (p := ⟨gb180, _, none⟩) NB178_180.out _).trans (((cell_far (p := ⟨gb180, _, none⟩) NB178_180.out _).trans (((cell_far (p := ⟨gb180, _, none⟩) NB178_180.out _).trans (hHeld.2.2.2.2.2.2.1)))))))))), ((cell_far (p := ⟨gb180, _, none⟩) NB178_180.out _).trans (((cell_far (p := ⟨gb180, _, none⟩) NB178_180.out _).trans (((cell_far (p := ⟨gb180, _, none⟩) NB178_180.out _).trans (((cell_far (p := ⟨gb180, _, none⟩) NB178_180.out _).trans (((cell_far (p := ⟨gb180, _, none⟩) NB178_180.out _).trans (hHeld.2.2.2.2.2.2.2))))))))))⟩ (fun hHeld => ?_)
   clear hK K
   refine done_ (done_of HT_.out (by kernel_rfl)) ?_
   have hnb97 := NB180_167.out
   have hnc97 := NB167_180.out
   have hnb98 := NB180_168.out
   have hnc98 := NB168_180.out
   have hnb99 := NB180_178.out
   have hnc99 := NB178_180.out
   obtain ⟨hcz100_0, hcz100_1, hcz100_2, hcz100_3, hcz100_4, hfz100_0, hfz100_1, hfz100_2, hfz100_3, hfz100_4⟩ := zc4_5 (w := w91) BK180.out
   try go_wp2
   have n0_ : Aside0 ((((((w91.setCell ⟨gb180, 0, none⟩ (.int .i64 a2)).setCell ⟨gb180, 1, none⟩ (.int .i64 a1_1)).setCell ⟨gb180, 2, none⟩ (.int .i64 t179)).setCell ⟨gb180, 3, none⟩ (.int .i64 (-1))).setCell ⟨gb180, 4, none⟩ (.int .i64 (-1))).heap[gb167]? = some (.cells #[.slice A1_0 l1_0.length c1_0, .int .i64 a1_1, .int .i64 a1_2] 49 (0, 0))) := ⟨by refine zP4 ?_; refine blk_far ?_ NB167_180.out _; refine zP4 ?_; refine blk_far ?_ NB167_180.out _; refine zP4 ?_; refine blk_far ?_ NB167_180.out _; refine zP4 ?_; refine blk_far ?_ NB167_180.out _; refine zP4 ?_; refine blk_far ?_ NB167_180.out _; refine zP4 ?_; exact BK167.out⟩
   have n1_ : Aside0 ((((((w91.setCell ⟨gb180, 0, none⟩ (.int .i64 a2)).setCell ⟨gb180, 1, none⟩ (.int .i64 a1_1)).setCell ⟨gb180, 2, none⟩ (.int .i64 t179)).setCell ⟨gb180, 3, none⟩ (.int .i64 (-1))).setCell ⟨gb180, 4, none⟩ (.int .i64 (-1))).heap[gb168]? = some (.cells #[.int .i64 0, .int .i64 0, .int .i64 0, .int .i64 0, .int .i64 0] 31 (0, 0))) := ⟨by refine zP4 ?_; refine blk_far ?_ NB168_180.out _; refine zP4 ?_; refine blk_far ?_ NB168_180.out _; refine zP4 ?_; refine blk_far ?_ NB168_180.out _; refine zP4 ?_; refine blk_far ?_ NB168_180.out _; refine zP4 ?_; refine blk_far ?_ NB168_180.out _; refine zP4 ?_; exact BK168.out⟩
   have n2_ : Aside0 ((((((w91.setCell ⟨gb180, 0, none⟩ (.int .i64 a2)).setCell ⟨gb180, 1, none⟩ (.int .i64 a1_1)).setCell ⟨gb180, 2, none⟩ (.int .i64 t179)).setCell ⟨gb180, 3, none⟩ (.int .i64 (-1))).setCell ⟨gb180, 4, none⟩ (.int .i64 (-1))).heap[gb178]? = some (.cells #[.int .i64 t172, .int .i64 t173, .int .i64 t174, .int .i64 t175, .int .i64 t176] 71 (0, 0))) := ⟨by refine zP4 ?_; refine blk_far ?_ NB178_180.out _; refine zP4 ?_; refine blk_far ?_ NB178_180.out _; refine zP4 ?_; refine blk_far ?_ NB178_180.out _; refine zP4 ?_; refine blk_far ?_ NB178_180.out _; refine zP4 ?_; refine blk_far ?_ NB178_180.out _; refine zP4 ?_; exact BK178.out⟩
   have n3_ : Aside0 ((((((w91.setCell ⟨gb180, 0, none⟩ (.int .i64 a2)).setCell ⟨gb180, 1, none⟩ (.int .i64 a1_1)).setCell ⟨gb180, 2, none⟩ (.int .i64 t179)).setCell ⟨gb180, 3, none⟩ (.int .i64 (-1))).setCell ⟨gb180, 4, none⟩ (.int .i64 (-1))).heap[gb180]? = some (.cells #[.int .i64 a2, .int .i64 a1_1, .int .i64 t179, .int .i64 (-1), .int .i64 (-1)] 31 (0, 0))) := ⟨by refine zP4 ?_; refine blk_put (cs := #[.int .i64 a2, .int .i64 a1_1, .int .i64 t179, .int .i64 (-1), .int .i64 0]) ?_ 4 _ rfl; refine zP4 ?_; refine blk_put (cs := #[.int .i64 a2, .int .i64 a1_1, .int .i64 t179, .int .i64 0, .int .i64 0]) ?_ 3 _ rfl; refine zP4 ?_; refine blk_put (cs := #[.int .i64 a2, .int .i64 a1_1, .int .i64 0, .int .i64 0, .int .i64 0]) ?_ 2 _ rfl; refine zP4 ?_; refine blk_put (cs := #[.int .i64 a2, .int .i64 0, .int .i64 0, .int .i64 0, .int .i64 0]) ?_ 1 _ rfl; refine zP4 ?_; refine blk_put (cs := #[.int .i64 0, .int .i64 0, .int .i64 0, .int .i64 0, .int .i64 0]) ?_ 0 _ rfl; refine zP4 ?_; exact BK180.out⟩
   have n4_ : Aside0 (Below w.heap.size w (((((w91.setCell ⟨gb180, 0, none⟩ (.int .i64 a2)).setCell ⟨gb180, 1, none⟩ (.int .i64 a1_1)).setCell ⟨gb180, 2, none⟩ (.int .i64 t179)).setCell ⟨gb180, 3, none⟩ (.int .i64 (-1))).setCell ⟨gb180, 4, none⟩ (.int .i64 (-1)))) := ⟨zB4_4⟩
   (try clear BK167)
   (try clear BK168)
   (try clear BK178)
   (try clear BK180)
   (try clear HB)
   generalize (((((w91.setCell ⟨gb180, 0, none⟩ (.int .i64 a2)).setCell ⟨gb180, 1, none⟩ (.int .i64 a1_1)).setCell ⟨gb180, 2, none⟩ (.int .i64 t179)).setCell ⟨gb180, 3, none⟩ (.int .i64 (-1))).setCell ⟨gb180, 4, none⟩ (.int .i64 (-1))) = w101 at n0_ n1_ n2_ n3_ n4_ ⊢
   have BK167 := n0_
   have BK168 := n1_
   have BK178 := n2_
   have BK180 := n3_
   have HB := n4_
   clear n0_ n1_ n2_ n3_ n4_
   have n0_ := Aside0.mk (blk_drew BK167.out)
   have n1_ := Aside0.mk (blk_drew BK168.out)
   have n2_ := Aside0.mk (blk_drew BK178.out)
   have n3_ := Aside0.mk (blk_drew BK180.out)
   have n4_ := Aside0.mk (below_drew1 HB.out)
   clear BK167 BK168 BK178 BK180 HB
   have BK167 := n0_
   have BK168 := n1_
   have BK178 := n2_
   have BK180 := n3_
   have HB := n4_
   clear n0_ n1_ n2_ n3_ n4_
   have p181 : 0 ≤ (t179 : Int) := zA4
   have q181 : t179 < (l0.length : Int) := zA4
   obtain ⟨ad181, e181, hx181_0⟩ := Kd.at_int HR0.out t179 p181 q181
   have hw181_0 := hx181_0
   obtain rfl : ad171 = ad181 := (by injection e181)
   replace hx181_0 := (HB.out.cell (World.block_lt_of_cell? w _ hx181_0)).trans hx181_0
   replace p181 := eq_true p181
   replace q181 := eq_true q181
   refine start_ (n := 13) (S := fun w' => w'.cell? ⟨gb167, 0, none⟩ = some (.slice A1_0 l1_0.length c1_0) ∧ w'.cell? ⟨gb167, 1, none⟩ = some (.int .i64 a1_1) ∧ w'.cell? ⟨gb167, 2, none⟩ = some (.int .i64 a1_2) ∧ w'.cell? ⟨gb178, 0, none⟩ = some (.int .i64 t172) ∧ w'.cell? ⟨gb178, 1, none⟩ = some (.int .i64 t173) ∧ w'.cell? ⟨gb178, 2, none⟩ = some (.int .i64 t174) ∧ w'.cell? ⟨gb178, 3, none⟩ = some (.int .i64 t175) ∧ w'.cell? ⟨gb178, 4, none⟩ = some (.int .i64 t176) ∧ w'.cell? ⟨gb180, 0, none⟩ = some (.int .i64 a2) ∧ w'.cell? ⟨gb180, 1, none⟩ = some (.int .i64 a1_1) ∧ w'.cell? ⟨gb180, 2, none⟩ = some (.int .i64 t179) ∧ w'.cell? ⟨gb180, 3, none⟩ = some (.int .i64 (-1)) ∧ w'.cell? ⟨gb180, 4, none⟩ = some (.int .i64 (-1)) ∧ w'.cell? (ad171.add (t179).toNat) = some (.int .i64 (rd l0 t179))) (ds := [12]) zq4_13 (by kernel_rfl) rfl rfl ⟨(blk_cell BK167.out 0).trans rfl, (blk_cell BK167.out 1).trans rfl, (blk_cell BK167.out 2).trans rfl, (blk_cell BK178.out 0).trans rfl, (blk_cell BK178.out 1).trans rfl, (blk_cell BK178.out 2).trans rfl, (blk_cell BK178.out 3).trans rfl, (blk_cell BK178.out 4).trans rfl, (blk_cell BK180.out 0).trans rfl, (blk_cell BK180.out 1).trans rfl, (blk_cell BK180.out 2).trans rfl, (blk_cell BK180.out 3).trans rfl, (blk_cell BK180.out 4).trans rfl, ((HB.out.cell (World.block_lt_of_cell? w _ hw181_0)).trans hw181_0)⟩ (fun hHeld => ?_); refine with_tabW spec_EventOf.tab7 spec_EventOf.bits7 (fun HT_ HW_ => ?_)
   generalize w101.drew = w102 at BK167 BK168 BK178 BK180 HB hx181_0 hHeld ⊢
   refine pure_ (i := 2) (N := some 49) (v := ?_) (a' := ?_) zq4_14 rfl rfl (any_of HT_.out (by kernel_rfl)) (fun _ _ _ h => h) (Or.inl ⟨by rfl, ?_⟩) ?_ ?_
   rotate_left
   ·intro w'
    go_simp
    with_reducible rfl
   rotate_left
   ·exact zV4
   refine pure_ (i := 3) (N := some 50) (v := ?_) (a' := ?_) zq4_15 rfl rfl (any_of HT_.out (by kernel_rfl)) (fun _ _ _ h => h) (Or.inl ⟨by rfl, ?_⟩) ?_ ?_
   rotate_left
   ·intro w'
    go_simp
    with_reducible rfl
   rotate_left
   ·exact zV4
   refine take_ (i := 0) (N := some 47) (v := ?_) (a' := ?_) zq4_16 rfl rfl (take_ofW HT_.out HW_.out (by kernel_rfl)) (fun _ _ _ h => h) (Or.inl ⟨by rfl, ?_⟩) hHeld ?_ ?_
   rotate_left
   ·rintro w' ⟨s0, s1, s2, s3, s4, s5, s6, s7, s8, s9, s10, s11, s12, s13⟩
    go_simp
    with_reducible rfl
   rotate_left
   ·exact zV4
   refine take_ (i := 1) (N := some 48) (v := ?_) (a' := ?_) zq4_17 rfl rfl (take_ofW HT_.out HW_.out (by kernel_rfl)) (fun _ _ _ h => h) (Or.inl ⟨by rfl, ?_⟩) hHeld ?_ ?_
   rotate_left
   ·rintro w' ⟨s0, s1, s2, s3, s4, s5, s6, s7, s8, s9, s10, s11, s12, s13⟩
    go_simp
    with_reducible rfl
   rotate_left
   ·exact zV4
   refine take_ (i := 4) (N := some 51) (v := ?_) (a' := ?_) zq4_18 rfl rfl (take_ofW HT_.out HW_.out (by kernel_rfl)) (fun _ _ _ h => h) (Or.inl ⟨by rfl, ?_⟩) hHeld ?_ ?_
   rotate_left
   ·rintro w' ⟨s0, s1, s2, s3, s4, s5, s6, s7, s8, s9, s10, s11, s12, s13⟩
    go_simp
    with_reducible rfl
   rotate_left
   ·exact zV4
   refine pure_ (i := 5) (N := some 52) (v := ?_) (a' := ?_) zq4_19 rfl rfl (any_of HT_.out (by kernel_rfl)) (fun _ _ _ h => h) (Or.inl ⟨by rfl, ?_⟩) ?_ ?_
   rotate_left
   ·intro w'
    go_simp
    with_reducible rfl
   rotate_left
   ·exact zV4
   refine take_ (i := 6) (N := some 53) (v := ?_) (a' := ?_) zq4_20 rfl rfl (take_ofW HT_.out HW_.out (by kernel_rfl)) (fun _ _ _ h => h) (Or.inl ⟨by rfl, ?_⟩) hHeld ?_ ?_
   rotate_left
   ·rintro w' ⟨s0, s1, s2, s3, s4, s5, s6, s7, s8, s9, s10, s11, s12, s13⟩
    go_simp
    with_reducible rfl
   rotate_left
   ·exact zV4
   refine one_ (i := 7) (N := some 54) zq4_21 rfl rfl (one_of HT_.out (by kernel_rfl)) (by decide) (fun K hK => ?_)
   refine goes_ Try.func79 (by kernel_rfl) rfl #[.agg #[.slice A1_0 l1_0.length c1_0, .int .i64 a1_1, .int .i64 a1_2], .agg #[.int .i64 t172, .int .i64 t173, .int .i64 t174, .int .i64 t175, .int .i64 t176], .int .i64 (rd l0 t179)] (by rfl) rfl rfl zT4 ?_
   with_reducible refine (spec_Work.calls kj3 _ _ l1_0 a1_1 a1_2 t172 t173 t174 t175 t176 (rd l0 t179) t182 t185 t186 t187 _ ?side1 ?side2 A50.out).mono ?_
   (case side1 => exact zC4 (Kd.C_below HR1_0.out HB.out))
   (case side2 => exact HC1_0.out)
   rintro e w103 ⟨v183, rfl, ho0, hb⟩
   refine ⟨_, rfl, ?_⟩
   have n0_ := Aside0.mk (Kd.R_lower ho0 (below_size (zB4_4)))
   have n1_ := Aside0.mk (zb4 BK167.out hb)
   have n2_ := Aside0.mk (zb4 BK168.out hb)
   have n3_ := Aside0.mk (zb4 BK178.out hb)
   have n4_ := Aside0.mk (zb4 BK180.out hb)
   have n5_ := Aside0.mk (below_step (zB4_4) hb)
   clear BK167 BK168 BK178 BK180 HB
   have HO184 := n0_
   have BK167 := n1_
   have BK168 := n2_
   have BK178 := n3_
   have BK180 := n4_
   have HB := n5_
   clear n0_ n1_ n2_ n3_ n4_ n5_
   (try clear hb)
   (try clear hb2)
   (try clear hk)
   (try clear hi)
   (try clear ho0)
   refine hK.out _ _ ⟨(blk_cell BK167.out 0).trans rfl, (blk_cell BK167.out 1).trans rfl, (blk_cell BK167.out 2).trans rfl, (blk_cell BK178.out 0).trans rfl, (blk_cell BK178.out 1).trans rfl, (blk_cell BK178.out 2).trans rfl, (blk_cell BK178.out 3).trans rfl, (blk_cell BK178.out 4).trans rfl, (blk_cell BK180.out 0).trans rfl, (blk_cell BK180.out 1).trans rfl, (blk_cell BK180.out 2).trans rfl, (blk_cell BK180.out 3).trans rfl, (blk_cell BK180.out 4).trans rfl, ((HB.out.cell (World.block_lt_of_cell? w _ hw181_0)).trans hw181_0)⟩ (fun hHeld => ?_)
   clear hK K
   refine norm_ (a' := ?_) ?_ ?_
   rotate_left
   ·show Act.put _ (some 54) _ = _
    simp only [Act.put, List.setIfInBounds_toArray, List.set_cons_zero, List.set_cons_succ, i64_w, i32_w]
    rfl
   refine pure_ (i := 8) (N := some 46) (v := ?_) (a' := ?_) zq4_22 rfl rfl (any_of HT_.out (by kernel_rfl)) (fun _ _ _ h => h) (Or.inl ⟨by rfl, ?_⟩) ?_ ?_
   rotate_left
   ·intro w'
    go_simp
    with_reducible rfl
   rotate_left
   ·exact zV4
   refine pure_ (i := 9) (N := some 55) (v := ?_) (a' := ?_) zq4_23 rfl rfl (any_of HT_.out (by kernel_rfl)) (fun _ _ _ h => h) (Or.inl ⟨by rfl, ?_⟩) ?_ ?_
   rotate_left
   ·intro w'
    go_simp
    with_reducible rfl
   rotate_left
   ·exact zV4
   refine pure_ (i := 10) (N := some 56) (v := ?_) (a' := ?_) zq4_24 rfl rfl (any_of HT_.out (by kernel_rfl)) (fun _ _ _ h => h) (Or.inl ⟨by rfl, ?_⟩) ?_ ?_
   rotate_left
   ·intro w'
    go_simp
    with_reducible rfl
   rotate_left
   ·exact zV4
   refine pure_ (i := 11) (N := some 57) (v := ?_) (a' := ?_) zq4_25 rfl rfl (any_of HT_.out (by kernel_rfl)) (fun _ _ _ h => h) (Or.inl ⟨by rfl, ?_⟩) ?_ ?_
   rotate_left
   ·intro w'
    go_simp
    with_reducible rfl
   rotate_left
   ·exact zV4
   refine last_ (i := 12) (N := none) zq4_26 rfl rfl (one_of HT_.out (by kernel_rfl)) (by decide) (fun K hK => ?_)
   have hs104 : w103.cell? ⟨gb180, 4, none⟩ = some (.int .i64 (-1)) := (blk_cell BK180.out 4).trans rfl
   have hfs104 := blk_frozen BK180.out 4
   have hns104_0 := NB167_180.out
   have hns104_1 := NB168_180.out
   have hns104_2 := NB178_180.out
   have hms104_0 := NB180_167.out
   have hms104_1 := NB180_168.out
   have hms104_2 := NB180_178.out
   refine skip_ (w1 := ?_) (by rfl) rfl ?_ ?_
   rotate_left
   ·go_simp
    rfl
   refine hK.out _ _ ?_
   clear hK K
   refine done_ (done_of HT_.out (by kernel_rfl)) ?_
   obtain ⟨hcz105_0, hcz105_1, hcz105_2, hcz105_3, hcz105_4, hfz105_0, hfz105_1, hfz105_2, hfz105_3, hfz105_4⟩ := zc4_5 (w := w103) BK178.out
   obtain ⟨hcz106_0, hcz106_1, hcz106_2, hcz106_3, hcz106_4, hfz106_0, hfz106_1, hfz106_2, hfz106_3, hfz106_4⟩ := zc4_5 (w := w103) BK180.out
   have p188 : 0 ≤ (t179 : Int) := zA4
   have q188 : t179 < (l0.length : Int) := zA4
   obtain ⟨ad188, e188, hx188_0⟩ := Kd.at_int HR0.out t179 p188 q188
   obtain rfl : ad171 = ad188 := (by injection e188)
   have hn188_0 : ad171.block ≠ gb180 := Nat.ne_of_lt (Nat.lt_of_lt_of_le (by have := World.block_lt_of_cell? _ _ hx188_0; first | rwa [add_block] at this | exact this) GW180.out)
   replace hx188_0 := (HB.out.cell (World.block_lt_of_cell? w _ hx188_0)).trans hx188_0
   replace hx188_0 := (cell_far (p := ⟨gb180, 4, none⟩) (by first | (rw [add_block]; exact hn188_0) | (show (Addr.add _ _).block ≠ _; rw [add_block]; exact hn188_0) | exact hn188_0) (.int .i64 t187)).trans hx188_0
   clear hn188_0
   replace p188 := eq_true p188
   replace q188 := eq_true q188
   obtain ⟨hcz107_0, hcz107_1, hcz107_2, hcz107_3, hcz107_4, hfz107_0, hfz107_1, hfz107_2, hfz107_3, hfz107_4⟩ := zc4_5 (w := w103) BK168.out
   try go_wp2
   refine bodyPost_ret (results_ct rfl _ _ gb168 31 #[.int .i64 a2, .int .i64 a1_1, .int .i64 t179, .int .i64 (rd l0 t179), .int .i64 t187] (0, 0) _ rfl (by refine zP4 ?_; refine blk_put (cs := #[.int .i64 a2, .int .i64 a1_1, .int .i64 t179, .int .i64 (rd l0 t179), .int .i64 0]) ?_ 4 _ rfl; refine zP4 ?_; refine blk_put (cs := #[.int .i64 a2, .int .i64 a1_1, .int .i64 t179, .int .i64 0, .int .i64 0]) ?_ 3 _ rfl; refine zP4 ?_; refine blk_put (cs := #[.int .i64 a2, .int .i64 a1_1, .int .i64 0, .int .i64 0, .int .i64 0]) ?_ 2 _ rfl; refine zP4 ?_; refine blk_put (cs := #[.int .i64 a2, .int .i64 0, .int .i64 0, .int .i64 0, .int .i64 0]) ?_ 1 _ rfl; refine zP4 ?_; refine blk_put (cs := #[.int .i64 0, .int .i64 0, .int .i64 0, .int .i64 0, .int .i64 0]) ?_ 0 _ rfl; refine zP4 ?_; refine blk_far ?_ NB168_180.out _; refine zP4 ?_; refine blk_far ?_ NB168_180.out _; refine zP4 ?_; exact BK168.out) Try.underlying31 rfl (by kernel_rfl)) rfl ?_
   exact ⟨zE4, zB4_4⟩

end Go.Proofs.Ytgbjengnkbomoaa.PFnByHart
